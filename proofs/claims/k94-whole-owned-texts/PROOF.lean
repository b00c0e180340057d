import PyProof.Rows.All
import Wide.All
import OpenK.AllK
import Wide.FinOn
import HandS.ForMost
import HandS.ForExc
import HandS.TupAny
import HandS.TupMul
import HandS.Conv
import HandS.Flow
import HandS.Style
import HandS.IsInst
import HandS.Zip
import HandS.Deep
import HandS.ExcValue
import HandS.Ends
import HandS.ExcOwn
import HandS.HotCalls
import HandS.ExcIs
import KE.KDictZip
import KE.GoesEnum
import HandS.SortInts
import HandS.Strs
import HandS.Set
import PyProof.Rows.SortStr
import HandS.More
import HandS.RaiseMore
import HandS.Replace
import PySem.Challenge.RW_pastways_k94_whole_owned_texts
set_option Elab.async false
set_option linter.all false
set_option maxRecDepth 100000
/-! A layer of plain data over the hand layer: each def as a function of data. -/
namespace G81
open PySem PySem.Spec PyProof.Rows L2

/-- a text of these signs -/
def mkS (s : List Char) : Str := ⟨(s.map Char.toNat).toArray⟩
/-- data -/
inductive D where
  | non | bl (b : Bool) | int (i : Int) | str (s : List Char) | lst (l : List D) | tup (l : List D)
  | scr (l : List Int) | dic (ks : List (Int ⊕ List Char)) (vs : List D) | exc (c : Str) | fn (x : Str)

def kOf : Int ⊕ List Char → Key
  | .inl i => .inl i
  | .inr s => .inr (mkS s)
def zipK (ks : List (Int ⊕ List Char)) (xs : List V) : List (Key × V) := (ks.map kOf).zip xs
/-- an answer: a datum, an exception of the class of that name, or nothing is known -/
inductive R (α : Type) where
  | ok (a : α) | err (c : Str) | bad

def R.bind {α β : Type} : R α → (α → R β) → R β
  | .ok a, f => f a
  | .err c, _ => .err c
  | .bad, _ => .bad
@[simp] theorem R.bind_ok {α β : Type} (a : α) (f : α → R β) : (R.ok a).bind f = f a := rfl
@[simp] theorem R.bind_err {α β : Type} (c : Str) (f : α → R β) : (R.err c).bind f = .err c := rfl
@[simp] theorem R.bind_bad {α β : Type} (f : α → R β) : (R.bad : R α).bind f = .bad := rfl

/-- what stands around -/
structure Gx where
  P : Program
  w : World
  K : PySem.W.Frag
  mg : Str → Option Value
  base : Heap
  /-- nothing is handled -/
  cm : Bool
  /-- the exceptions at hand -/
  exs : Addr → Str → Prop
/-- nothing is handled, no exception is at hand -/
class Calm (G : Gx) : Prop where
  h : G.cm = true
  e : ∀ a c, ¬ G.exs a c

mutual
def Rep (G : Gx) (F : Hp) : D → V → Prop
  | .non, v => v = .non
  | .bl b, v => v = .bl b
  | .int i, v => v = .int i
  | .str s, v => v = .str (mkS s)
  | .lst l, v => ∃ a xs, v = .ref a ∧ F a = some (.lst xs) ∧ RepL G F l xs
  | .tup l, v => ∃ a xs, v = .ref a ∧ SqT G.K F a xs ∧ RepL G F l xs
  | .scr l, v => ∃ a, v = .ref a ∧ SqL G.K F a (l.map V.int)
  | .dic ks vs, v => ∃ a xs, v = .ref a ∧ F a = some (.dK (zipK ks xs)) ∧ RepL G F vs xs
  | .exc c, v => ∃ a, v = .ref a ∧ G.exs a c
  | .fn x, v => ∃ f, v = .ref f ∧ G.mg x = some (.ref f)
def RepL (G : Gx) (F : Hp) : List D → List V → Prop
  | [], xs => xs = []
  | d :: ds, xs => ∃ v vs, xs = v :: vs ∧ Rep G F d v ∧ RepL G F ds vs
end

theorem same_sqT {K : PySem.W.Frag} {H H' : Hp} {a : Addr} {xs : List V} (e : Same H H') (h : SqT K H a xs) : SqT K H' a xs := by
  rcases h with (h | ⟨o, h⟩) | h
  · exact .inl (.inl (e _ _ h))
  · exact .inl (.inr ⟨o, e _ _ h⟩)
  · exact .inr h

mutual
theorem Rep.mono {G : Gx} {F F' : Hp} (e : Same F F') : ∀ (d : D) (v : V), Rep G F d v → Rep G F' d v
  | .non, _, h => h
  | .bl _, _, h => h
  | .int _, _, h => h
  | .str _, _, h => h
  | .lst l, _, ⟨a, xs, e1, e2, h⟩ => ⟨a, xs, e1, e _ _ e2, RepL.mono e l xs h⟩
  | .tup l, _, ⟨a, xs, e1, e2, h⟩ => ⟨a, xs, e1, same_sqT e e2, RepL.mono e l xs h⟩
  | .scr l, _, ⟨a, e1, e2⟩ => ⟨a, e1, e.seq e2⟩
  | .dic ks vs, _, ⟨a, xs, e1, e2, h⟩ => ⟨a, xs, e1, e _ _ e2, RepL.mono e vs xs h⟩
  | .exc _, _, h => h
  | .fn x, _, h => h
theorem RepL.mono {G : Gx} {F F' : Hp} (e : Same F F') : ∀ (l : List D) (xs : List V), RepL G F l xs → RepL G F' l xs
  | [], _, h => h
  | d :: ds, _, ⟨v, vs, e1, h1, h2⟩ => ⟨v, vs, e1, Rep.mono e d v h1, RepL.mono e ds vs h2⟩
end
theorem RepL.len {G : Gx} {F : Hp} : ∀ {l : List D} {xs : List V}, RepL G F l xs → xs.length = l.length
  | [], _, h => by cases h; rfl
  | d :: ds, _, ⟨v, vs, e1, h1, h2⟩ => by subst e1; simp [RepL.len h2]
theorem RepL.app {G : Gx} {F : Hp} : ∀ {l m : List D} {xs ys : List V}, RepL G F l xs → RepL G F m ys → RepL G F (l ++ m) (xs ++ ys)
  | [], _, _, _, h, h' => by cases h; exact h'
  | d :: ds, _, _, _, ⟨v, vs, e1, h1, h2⟩, h' => by subst e1; exact ⟨v, _, rfl, h1, RepL.app h2 h'⟩
theorem RepL.one {G : Gx} {F : Hp} {d : D} {v : V} (h : Rep G F d v) : RepL G F [d] [v] := ⟨v, [], rfl, h, rfl⟩
theorem RepL.get {G : Gx} {F : Hp} : ∀ {l : List D} {xs : List V} {i : Nat} {d : D}, RepL G F l xs → l[i]? = some d → ∃ v, xs[i]? = some v ∧ Rep G F d v
  | [], _, _, _, _, e => by simp at e
  | d :: ds, _, 0, _, ⟨v, vs, e1, h1, h2⟩, e => by subst e1; simp at e; subst e; exact ⟨v, rfl, h1⟩
  | d :: ds, _, i + 1, _, ⟨v, vs, e1, h1, h2⟩, e => by
    subst e1
    obtain ⟨u, h, r⟩ := RepL.get (i := i) h2 (by simpa using e)
    exact ⟨u, by simpa using h, r⟩
theorem RepL.none {G : Gx} {F : Hp} {l : List D} {xs : List V} {i : Nat} (h : RepL G F l xs) (e : l[i]? = none) : xs[i]? = none := by
  have := h.len
  rw [List.getElem?_eq_none_iff] at e ⊢
  omega
theorem RepL.drop {G : Gx} {F : Hp} : ∀ {l : List D} {xs : List V} (n : Nat), RepL G F l xs → RepL G F (l.drop n) (xs.drop n)
  | _, _, 0, h => h
  | [], _, n + 1, h => by cases h; rfl
  | d :: ds, _, n + 1, ⟨v, vs, e1, h1, h2⟩ => by subst e1; exact RepL.drop n h2
theorem RepL.take {G : Gx} {F : Hp} : ∀ {l : List D} {xs : List V} (n : Nat), RepL G F l xs → RepL G F (l.take n) (xs.take n)
  | _, _, 0, h => rfl
  | [], _, n + 1, h => by cases h; rfl
  | d :: ds, _, n + 1, ⟨v, vs, e1, h1, h2⟩ => by subst e1; exact ⟨v, _, rfl, h1, RepL.take n h2⟩
theorem RepL.set {G : Gx} {F : Hp} {d : D} {v : V} (h : Rep G F d v) : ∀ {l : List D} {xs : List V} (n : Nat), RepL G F l xs → RepL G F (l.set n d) (xs.set n v)
  | [], _, _, e => by cases e; rfl
  | _ :: _, _, 0, ⟨u, vs, e1, h1, h2⟩ => by subst e1; exact ⟨v, vs, rfl, h, h2⟩
  | _ :: _, _, n + 1, ⟨u, vs, e1, h1, h2⟩ => by subst e1; exact ⟨u, _, rfl, h1, RepL.set h n h2⟩
theorem RepL.reverse {G : Gx} {F : Hp} : ∀ {l : List D} {xs : List V}, RepL G F l xs → RepL G F l.reverse xs.reverse
  | [], _, h => by cases h; rfl
  | d :: ds, _, ⟨v, vs, e1, h1, h2⟩ => by
    subst e1
    rw [List.reverse_cons, List.reverse_cons]
    exact (RepL.reverse h2).app (.one h1)
theorem RepL.rep {G : Gx} {F : Hp} {l : List D} {xs : List V} (h : RepL G F l xs) : ∀ n : Nat, RepL G F (List.replicate n l).flatten (List.replicate n xs).flatten
  | 0 => rfl
  | n + 1 => by
    rw [List.replicate_succ, List.replicate_succ, List.flatten_cons, List.flatten_cons]
    exact h.app (RepL.rep h n)
theorem RepL.ints {G : Gx} {F : Hp} : ∀ (l : List Int), RepL G F (l.map D.int) (l.map V.int)
  | [] => rfl
  | i :: l => ⟨_, _, rfl, rfl, RepL.ints l⟩
theorem RepL.strs {G : Gx} {F : Hp} : ∀ (l : List (List Char)), RepL G F (l.map D.str) (l.map fun s => V.str (mkS s))
  | [] => rfl
  | i :: l => ⟨_, _, rfl, rfl, RepL.strs l⟩

/-- frozen part and heap grow by new objects alone -/
structure Ext (F H F' H' : Hp) : Prop where
  f : Same F F'
  h : Same H H'
  i : Same F' H'
  n : ∀ a, H a ≠ none → F' a = F a
  s : Same F H
theorem Ext.refl {F H : Hp} (i : Same F H) : Ext F H F H := ⟨.refl _, .refl _, i, fun _ _ => rfl, i⟩
theorem Same.some {H H' : Hp} (e : Same H H') {a : Addr} (h : H a ≠ none) : H' a ≠ none := by
  cases q : H a with
  | none => exact absurd q h
  | some o => rw [e _ _ q]; simp
theorem Ext.trans {F H F1 H1 F2 H2 : Hp} (a : Ext F H F1 H1) (b : Ext F1 H1 F2 H2) : Ext F H F2 H2 :=
  ⟨a.f.trans b.f, a.h.trans b.h, b.i, fun c hc => (b.n c (Same.some a.h hc)).trans (a.n c hc), a.s⟩
theorem same_upd' {H : Hp} {p : Addr} {o : HO} (h : H p = none) : Same H (upd H p o) := fun b x e => by
  rw [upd_ne (ne_of_none e h)]
  exact e
theorem same_upd2 {F H : Hp} {p : Addr} {o : HO} (i : Same F H) : Same (upd F p o) (upd H p o) := fun b x e => by
  by_cases hb : b = p
  · subst hb; rw [upd_same] at e ⊢; exact e
  · rw [upd_ne hb] at e ⊢; exact i _ _ e
theorem Ext.new {F H : Hp} {p : Addr} {o : HO} (i : Same F H) (h : H p = none) : Ext F H (upd F p o) (upd H p o) :=
  ⟨same_upd' (i.free h), same_upd' h, same_upd2 i, fun a ha => upd_ne fun e => ha (e ▸ h), i⟩
theorem Ext.own {F H : Hp} {p : Addr} {o : HO} (i : Same F H) (h : H p = none) : Ext F H F (upd H p o) :=
  ⟨.refl _, same_upd' h, i.trans (same_upd' h), fun _ _ => rfl, i⟩

/-- the slots' data -/
abbrev Ev := List (Option D)
@[simp] def Ev.get : Ev → Nat → Option D
  | [], _ => none
  | x :: _, 0 => x
  | _ :: r, n + 1 => Ev.get r n
@[simp] def Ev.set : Ev → Nat → D → Ev
  | [], _, _ => []
  | _ :: r, 0, d => some d :: r
  | x :: r, n + 1, d => x :: Ev.set r n d
@[simp] def Ev.del : Ev → Nat → Ev
  | [], _ => []
  | _ :: r, 0 => none :: r
  | x :: r, n + 1 => x :: Ev.del r n
theorem Ev.set_len : ∀ (e : Ev) (i : Nat) (d : D), (Ev.set e i d).length = e.length
  | [], _, _ => rfl
  | _ :: _, 0, _ => rfl
  | _ :: r, n + 1, d => by simp [Ev.set, Ev.set_len r n d]
theorem Ev.del_len : ∀ (e : Ev) (i : Nat), (Ev.del e i).length = e.length
  | [], _ => rfl
  | _ :: _, 0 => rfl
  | _ :: r, n + 1 => by simp [Ev.del, Ev.del_len r n]
theorem Ev.get_set : ∀ (e : Ev) (i j : Nat) (d : D), Ev.get (Ev.set e i d) j = if j = i ∧ i < e.length then some d else Ev.get e j
  | [], i, j, d => by simp [Ev.set, Ev.get]
  | x :: r, 0, 0, d => by simp [Ev.set, Ev.get]
  | x :: r, 0, j + 1, d => by simp [Ev.set, Ev.get]
  | x :: r, i + 1, 0, d => by simp [Ev.set, Ev.get]
  | x :: r, i + 1, j + 1, d => by simp [Ev.set, Ev.get, Ev.get_set r i j d]
theorem Ev.get_del : ∀ (e : Ev) (i j : Nat), Ev.get (Ev.del e i) j = if j = i then none else Ev.get e j
  | [], i, j => by simp [Ev.del, Ev.get]
  | x :: r, 0, 0 => by simp [Ev.del, Ev.get]
  | x :: r, 0, j + 1 => by simp [Ev.del, Ev.get]
  | x :: r, i + 1, 0 => by simp [Ev.del, Ev.get]
  | x :: r, i + 1, j + 1 => by simp [Ev.del, Ev.get, Ev.get_del r i j]
theorem Ev.get_lt : ∀ {e : Ev} {i : Nat} {d : D}, Ev.get e i = some d → i < e.length
  | [], _, _, h => by simp [Ev.get] at h
  | x :: r, 0, _, h => by simp
  | x :: r, i + 1, _, h => by simpa using Ev.get_lt (e := r) h

/-- a list of one's own: it stands in the heap, is not frozen, and is younger than the entry -/
def Own (G : Gx) (H0 F H : Hp) (d : D) (v : V) : Prop := ∃ a xs l, d = .lst l ∧ v = .ref a ∧ H0 a = none ∧ F a = none ∧ H a = some (.lst xs) ∧ RepL G F l xs
theorem Own.rep {G : Gx} {H0 F H : Hp} {d : D} {v : V} (i : Same F H) (h : Own G H0 F H d v) : Rep G H d v := by
  obtain ⟨a, xs, l, rfl, rfl, _, _, h, r⟩ := h
  exact ⟨a, xs, rfl, h, r.mono i⟩

structure Rel (G : Gx) (F0 H0 : Hp) (O : List Nat) (F : Hp) (σ : L2.St) (H : Hp) (env : Ev) : Prop where
  len : σ.length = env.length
  ext : Ext F0 H0 F H
  val : ∀ i d, Ev.get env i = some d → ∃ v, σ[i]? = some (some v) ∧ (i ∉ O → Rep G F d v) ∧ (i ∈ O → Own G H0 F H d v)
  sep : ∀ i j d e (a : Addr), i ∈ O → j ∈ O → Ev.get env i = some d → Ev.get env j = some e → σ[i]? = some (some (.ref a)) → σ[j]? = some (some (.ref a)) → i = j

section
variable {G : Gx} {F0 H0 F F' H H' : Hp} {O O' : List Nat} {σ : L2.St} {env : Ev}
theorem Rel.grow (r : Rel G F0 H0 O F σ H env) (e : Ext F H F' H') : Rel G F0 H0 O F' σ H' env := by
  refine ⟨r.len, r.ext.trans e, fun i d h => ?_, r.sep⟩
  obtain ⟨v, e1, h1, h2⟩ := r.val i d h
  refine ⟨v, e1, fun hi => (h1 hi).mono e.f _ _, fun hi => ?_⟩
  obtain ⟨a, xs, l, q1, q2, q3, q4, q5, q6⟩ := h2 hi
  exact ⟨a, xs, l, q1, q2, q3, by rw [e.n a (by rw [q5]; simp)]; exact q4, e.h _ _ q5, q6.mono e.f⟩
theorem Rel.heap (r : Rel G F0 H0 O F σ H env) (i : Nat) (d : D) (h : Ev.get env i = some d) : ∃ v, σ[i]? = some (some v) ∧ Rep G H d v := by
  obtain ⟨v, e1, h1, h2⟩ := r.val i d h
  refine ⟨v, e1, ?_⟩
  by_cases hi : i ∈ O
  · exact (h2 hi).rep r.ext.i
  · exact (h1 hi).mono r.ext.i _ _
/-- a slot gets a frozen datum -/
theorem Rel.put (r : Rel G F0 H0 O F σ H env) {i : Nat} {d : D} {v : V} (hv : Rep G F d v) (hO : ∀ j, j ∈ O' → j ∈ O ∧ j ≠ i) (hO2 : ∀ j, j ∈ O → j ≠ i → j ∈ O') :
    Rel G F0 H0 O' F (σ.set i (some v)) H (Ev.set env i d) := by
  refine ⟨by rw [List.length_set, Ev.set_len]; exact r.len, r.ext, fun j e h => ?_, fun j k d' e' a hj hk e1 e2 s1 s2 => ?_⟩
  · rw [Ev.get_set] at h
    by_cases c : j = i ∧ i < env.length
    · rw [if_pos c] at h
      cases h
      obtain ⟨rfl, c⟩ := c
      refine ⟨v, List.getElem?_set_self (by rw [r.len]; exact c), fun _ => hv, fun hj => absurd rfl (hO j hj).2⟩
    · rw [if_neg c] at h
      have ne : j ≠ i := fun z => c ⟨z, by rw [← z]; exact Ev.get_lt h⟩
      obtain ⟨u, e1, h1, h2⟩ := r.val j e h
      refine ⟨u, by rw [List.getElem?_set_ne (Ne.symm ne)]; exact e1, fun hj => h1 fun z => hj (hO2 j z ne), fun hj => h2 (hO j hj).1⟩
  · obtain ⟨hj, nj⟩ := hO j hj
    obtain ⟨hk, nk⟩ := hO k hk
    rw [Ev.get_set, if_neg fun z => nj z.1] at e1
    rw [Ev.get_set, if_neg fun z => nk z.1] at e2
    rw [List.getElem?_set_ne (Ne.symm nj)] at s1
    rw [List.getElem?_set_ne (Ne.symm nk)] at s2
    exact r.sep j k d' e' a hj hk e1 e2 s1 s2
/-- a slot gets a list of its own -/
theorem Rel.putO (r : Rel G F0 H0 O F σ H env) {i : Nat} {l : List D} {a : Addr} {xs : List V} (h0 : H0 a = none) (hF : F a = none) (hH : H a = some (.lst xs)) (hl : RepL G F l xs)
    (hn : ∀ j d, j ∈ O → j ≠ i → Ev.get env j = some d → σ[j]? ≠ some (some (.ref a))) (hO : ∀ j, j ∈ O' ↔ j = i ∨ j ∈ O) :
    Rel G F0 H0 O' F (σ.set i (some (.ref a))) H (Ev.set env i (.lst l)) := by
  refine ⟨by rw [List.length_set, Ev.set_len]; exact r.len, r.ext, fun j e h => ?_, fun j k d' e' b hj hk e1 e2 s1 s2 => ?_⟩
  · rw [Ev.get_set] at h
    by_cases c : j = i ∧ i < env.length
    · rw [if_pos c] at h
      cases h
      obtain ⟨rfl, c⟩ := c
      refine ⟨.ref a, List.getElem?_set_self (by rw [r.len]; exact c), fun hj => absurd ((hO j).mpr (.inl rfl)) hj, fun _ => ⟨a, xs, l, rfl, rfl, h0, hF, hH, hl⟩⟩
    · rw [if_neg c] at h
      have ne : j ≠ i := fun z => c ⟨z, by rw [← z]; exact Ev.get_lt h⟩
      obtain ⟨u, e1, h1, h2⟩ := r.val j e h
      refine ⟨u, by rw [List.getElem?_set_ne (Ne.symm ne)]; exact e1, fun hj => h1 fun z => hj ((hO j).mpr (.inr z)), fun hj => h2 (((hO j).mp hj).resolve_left ne)⟩
  · rw [Ev.get_set] at e1 e2
    by_cases cj : j = i
    · by_cases ck : k = i
      · exact cj.trans ck.symm
      · subst cj
        rw [if_neg fun z => ck z.1] at e2
        rw [List.getElem?_set_ne (Ne.symm ck)] at s2
        have hlt : j < σ.length := by
          rcases Nat.lt_or_ge j σ.length with z | z
          · exact z
          · rw [List.getElem?_eq_none (by simpa using z)] at s1; cases s1
        rw [List.getElem?_set_self hlt] at s1
        cases s1
        exact absurd s2 (hn k _ (((hO k).mp hk).resolve_left ck) ck e2)
    · rw [if_neg fun z => cj z.1] at e1
      rw [List.getElem?_set_ne (Ne.symm cj)] at s1
      by_cases ck : k = i
      · subst ck
        have hlt : k < σ.length := by
          rcases Nat.lt_or_ge k σ.length with z | z
          · exact z
          · rw [List.getElem?_eq_none (by simpa using z)] at s2; cases s2
        rw [List.getElem?_set_self hlt] at s2
        cases s2
        exact absurd s1 (hn j _ (((hO j).mp hj).resolve_left cj) cj e1)
      · rw [if_neg fun z => ck z.1] at e2
        rw [List.getElem?_set_ne (Ne.symm ck)] at s2
        exact r.sep j k d' e' b (((hO j).mp hj).resolve_left cj) (((hO k).mp hk).resolve_left ck) e1 e2 s1 s2
/-- an own list is changed -/
theorem Rel.mut (r : Rel G F0 H0 O F σ H env) {i : Nat} (hi : i ∈ O) {l l' : List D} {a : Addr} {xs' : List V} (he : Ev.get env i = some (.lst l)) (hs : σ[i]? = some (some (.ref a))) (hl : RepL G F l' xs') :
    Rel G F0 H0 O F σ (upd H a (.lst xs')) (Ev.set env i (.lst l')) := by
  obtain ⟨v, e1, _, h2⟩ := r.val i _ he
  obtain ⟨b, xs, l2, q1, q2, q3, q4, q5, q6⟩ := h2 hi
  rw [hs] at e1
  cases e1
  cases q2
  cases q1
  have ext : Ext F0 H0 F (upd H a (.lst xs')) := ⟨r.ext.f, fun c o e => by rw [upd_ne (ne_of_none e q3)]; exact r.ext.h _ _ e, fun c o e => by rw [upd_ne (ne_of_none e q4)]; exact r.ext.i _ _ e, r.ext.n, r.ext.s⟩
  refine ⟨by rw [Ev.set_len]; exact r.len, ext, fun j e h => ?_, fun j k d' e' c hj hk e1 e2 s1 s2 => ?_⟩
  · rw [Ev.get_set] at h
    by_cases c : j = i ∧ i < env.length
    · rw [if_pos c] at h
      cases h
      obtain ⟨rfl, c⟩ := c
      exact ⟨.ref a, hs, fun z => absurd hi z, fun _ => ⟨a, xs', l', rfl, rfl, q3, q4, upd_same, hl⟩⟩
    · rw [if_neg c] at h
      have ne : j ≠ i := fun z => c ⟨z, by rw [← z]; exact Ev.get_lt h⟩
      obtain ⟨u, e1, h1, h2⟩ := r.val j e h
      refine ⟨u, e1, h1, fun hj => ?_⟩
      obtain ⟨b, ys, l2, p1, p2, p3, p4, p5, p6⟩ := h2 hj
      have hb : b ≠ a := fun z => ne (r.sep j i e _ a hj hi h he (by rw [e1, p2, z]) hs)
      exact ⟨b, ys, l2, p1, p2, p3, p4, by rw [upd_ne hb]; exact p5, p6⟩
  · have g : ∀ j d, Ev.get (Ev.set env i (.lst l')) j = some d → ∃ d, Ev.get env j = some d := fun j d h => by
      rw [Ev.get_set] at h
      split at h
      · rename_i c; rw [c.1]; exact ⟨_, he⟩
      · exact ⟨_, h⟩
    obtain ⟨_, g1⟩ := g j _ e1
    obtain ⟨_, g2⟩ := g k _ e2
    exact r.sep j k _ _ c hj hk g1 g2 s1 s2
/-- own lists are frozen -/
theorem Rel.freeze1 (r : Rel G F0 H0 O F σ H env) (i : Nat) (hO : ∀ j, j ∈ O' ↔ j ∈ O ∧ j ≠ i) : ∃ F', Same F F' ∧ Rel G F0 H0 O' F' σ H env := by
  by_cases hi : i ∈ O
  · cases he : Ev.get env i with
    | none =>
      refine ⟨F, .refl _, r.len, r.ext, fun j d h => ?_, fun j k d e a hj hk => r.sep j k d e a ((hO j).mp hj).1 ((hO k).mp hk).1⟩
      obtain ⟨v, e1, h1, h2⟩ := r.val j d h
      have ne : j ≠ i := fun z => by rw [z, he] at h; cases h
      exact ⟨v, e1, fun hj => h1 fun z => hj ((hO j).mpr ⟨z, ne⟩), fun hj => h2 ((hO j).mp hj).1⟩
    | some d0 =>
      obtain ⟨v0, e0, _, h0⟩ := r.val i d0 he
      obtain ⟨a, xs, l, q1, q2, q3, q4, q5, q6⟩ := h0 hi
      subst q1 q2
      have sF : Same F (upd F a (.lst xs)) := same_upd' q4
      refine ⟨upd F a (.lst xs), sF, r.len, ⟨r.ext.f.trans sF, r.ext.h, fun b o e => ?_, fun b hb => ?_, r.ext.s⟩, fun j d h => ?_, fun j k d e a hj hk => r.sep j k d e a ((hO j).mp hj).1 ((hO k).mp hk).1⟩
      · by_cases hb : b = a
        · subst hb; rw [upd_same] at e; cases e; exact q5
        · rw [upd_ne hb] at e; exact r.ext.i _ _ e
      · rw [upd_ne fun z => hb (by rw [z]; exact q3)]; exact r.ext.n b hb
      · obtain ⟨v, e1, h1, h2⟩ := r.val j d h
        by_cases hj : j = i
        · subst hj
          rw [he] at h; cases h
          rw [e0] at e1; cases e1
          exact ⟨_, e0, fun _ => ⟨a, xs, rfl, upd_same, q6.mono sF⟩, fun z => absurd rfl ((hO j).mp z).2⟩
        · refine ⟨v, e1, fun z => (h1 fun y => z ((hO j).mpr ⟨y, hj⟩)).mono sF _ _, fun z => ?_⟩
          obtain ⟨b, ys, l2, p1, p2, p3, p4, p5, p6⟩ := h2 ((hO j).mp z).1
          have hb : b ≠ a := fun y => hj (r.sep j i d _ a ((hO j).mp z).1 hi h he (by rw [e1, p2, y]) e0)
          exact ⟨b, ys, l2, p1, p2, p3, by rw [upd_ne hb]; exact p4, p5, p6.mono sF⟩
  · refine ⟨F, .refl _, r.len, r.ext, fun j d h => ?_, fun j k d e a hj hk => r.sep j k d e a ((hO j).mp hj).1 ((hO k).mp hk).1⟩
    obtain ⟨v, e1, h1, h2⟩ := r.val j d h
    exact ⟨v, e1, fun hj => h1 fun z => hj ((hO j).mpr ⟨z, fun y => hi (y ▸ z)⟩), fun hj => h2 ((hO j).mp hj).1⟩
theorem Rel.freeze (r : Rel G F0 H0 O F σ H env) : ∀ (L : List Nat) (O' : List Nat), (∀ j, j ∈ O' ↔ j ∈ O ∧ j ∉ L) → ∃ F', Same F F' ∧ Rel G F0 H0 O' F' σ H env := by
  intro L
  induction L generalizing O F with
  | nil =>
    intro O' hO
    have hO' : ∀ j, j ∈ O' ↔ j ∈ O := fun j => by simpa using hO j
    refine ⟨F, .refl _, r.len, r.ext, fun j d h => ?_, fun j k d e a hj hk => r.sep j k d e a ((hO' j).mp hj) ((hO' k).mp hk)⟩
    obtain ⟨v, e1, h1, h2⟩ := r.val j d h
    exact ⟨v, e1, fun hj => h1 fun z => hj ((hO' j).mpr z), fun hj => h2 ((hO' j).mp hj)⟩
  | cons i L ih =>
    intro O' hO
    obtain ⟨F1, s1, r1⟩ := r.freeze1 (O' := O.filter (fun j => j ≠ i)) i (fun j => by simp [List.mem_filter])
    obtain ⟨F2, s2, r2⟩ := ih r1 O' (fun j => by rw [hO j]; simp [List.mem_filter, and_assoc])
    exact ⟨F2, s1.trans s2, r2⟩
theorem Rel.sub (r : Rel G F0 H0 O F σ H env) (O' : List Nat) (hO : ∀ j, j ∈ O' → j ∈ O) : ∃ F', Same F F' ∧ Rel G F0 H0 O' F' σ H env :=
  r.freeze (O.filter fun j => !O'.contains j) O' fun j => by
    constructor
    · intro h; exact ⟨hO j h, by simp [List.mem_filter, h]⟩
    · rintro ⟨h1, h2⟩
      simp only [List.mem_filter, not_and, Bool.not_eq_true', List.contains_eq_mem, decide_eq_false_iff_not, Decidable.not_not] at h2
      exact h2 h1
end
end G81

/-! Judgements of the data layer: expressions, tests, argument lists. -/
namespace G81
open PySem PySem.Spec PyProof.Rows L2

structure CxOk {ι : Type} (X : ι → Cx) (G : Gx) (N : List Str) (k : Nat) (E : XK) : Prop where
  nd : N.Nodup
  eP : ∀ i, (X i).prog = G.P
  ew : ∀ i, (X i).w = G.w
  eK : ∀ i, (X i).K = G.K
  emg : ∀ i, (X i).mg = G.mg
  ebase : ∀ i, (X i).base = G.base
  eN : ∀ i, (X i).N = N
  calm' : G.cm = true → ∀ i, (X i).calm = true
  room' : G.cm = true → ∀ i, Room k (X i).A
  units : ∀ i, (X i).A.units + 65 < cLine
  exs : ∀ i a c, G.exs a c → ∃ C oe, G.mg c = some (.ref C) ∧ (a, oe) ∈ (X i).pn ∧ Zc (.ref C) none oe ∧ ∃ vs, oe.data = .fields vs
  pass : ∀ i, Passes (L2.CX (X i).prog (X i).w) (X i) E

theorem CxOk.calm {ι : Type} {X : ι → Cx} {G : Gx} {N : List Str} {k : Nat} {E : XK} (C : CxOk X G N k E) [q : Calm G] (i : ι) : (X i).calm = true := C.calm' q.h i
theorem CxOk.room {ι : Type} {X : ι → Cx} {G : Gx} {N : List Str} {k : Nat} {E : XK} (C : CxOk X G N k E) [q : Calm G] (i : ι) : Room k (X i).A := C.room' q.h i

def ErrOk (G : Gx) (E : XK) (H : Hp) (c : Str) : Prop := ∃ C, G.mg c = some (.ref C) ∧ ∀ H', Same H H' → E (.ref C) none H'
theorem ErrOk.grow {G : Gx} {E : XK} {H H' : Hp} {c : Str} (h : ErrOk G E H c) (s : Same H H') : ErrOk G E H' c :=
  let ⟨C, h1, h2⟩ := h
  ⟨C, h1, fun H2 s2 => h2 H2 (s.trans s2)⟩

/-- what is wanted of an answer -/
def PostG (G : Gx) (E : XK) {α β : Type} (rel : Hp → Hp → Hp → α → β → Prop) (F H : Hp) : R α → (β → Hp → Prop) → Prop
  | .ok a, Q => ∀ b F' H', Ext F H F' H' → rel H F' H' a b → Q b H'
  | .err c, _ => ErrOk G E H c
  | .bad, _ => False
def Anti {α β : Type} (rel : Hp → Hp → Hp → α → β → Prop) : Prop := ∀ H H1 F' H' a b, Same H H1 → rel H1 F' H' a b → rel H F' H' a b
section
variable {G : Gx} {E : XK} {α β γ δ : Type} {rel : Hp → Hp → Hp → α → β → Prop} {rel2 : Hp → Hp → Hp → γ → δ → Prop} {F H F1 H1 : Hp}
theorem PostG.grow {r : R α} {Q : β → Hp → Prop} (an : Anti rel) (h : PostG G E rel F H r Q) (e : Ext F H F1 H1) : PostG G E rel F1 H1 r Q := by
  cases r with
  | ok a => exact fun b F' H' e' rl => h b F' H' (e.trans e') (an _ _ _ _ _ _ e.h rl)
  | err c => exact ErrOk.grow h e.h
  | bad => exact h
theorem PostG.bind {r : R α} {f : α → R γ} {Q : δ → Hp → Prop} {Q1 : β → Hp → Prop} (an : Anti rel2) (h : PostG G E rel2 F H (r.bind f) Q)
    (k : ∀ a b F1 H1, Ext F H F1 H1 → rel H F1 H1 a b → PostG G E rel2 F1 H1 (f a) Q → Q1 b H1) : PostG G E rel F H r Q1 := by
  cases r with
  | ok a => exact fun b F' H' e rl => k a b F' H' e rl (PostG.grow an h e)
  | err c => exact h
  | bad => exact h
end

def wd (m : Bool) (F H : Hp) : Hp := match m with
  | true => F
  | false => H
theorem wd_mono {m : Bool} {F H F' H' : Hp} (e : Ext F H F' H') : Same (wd m F H) (wd m F' H') := by cases m; exact e.h; exact e.f
theorem wd_sub {m : Bool} {F H : Hp} (i : Same F H) : Same (wd m F H) H := by cases m; exact .refl _; exact i
theorem wd_of {m : Bool} {F H : Hp} (i : Same F H) : Same F (wd m F H) := by cases m; exact i; exact .refl _

abbrev relM (G : Gx) (m : Bool) : Hp → Hp → Hp → D → V → Prop := fun _ F' H' d v => Rep G (wd m F' H') d v
abbrev relL (G : Gx) (m : Bool) : Hp → Hp → Hp → List D → List V → Prop := fun _ F' H' d v => RepL G (wd m F' H') d v
abbrev relB : Hp → Hp → Hp → Bool → Bool → Prop := fun _ _ _ a b => a = b
def relO (G : Gx) : Hp → Hp → Hp → D → V → Prop := fun H F' H' d v => ∃ a xs l, d = .lst l ∧ v = .ref a ∧ H a = none ∧ F' a = none ∧ H' a = some (.lst xs) ∧ RepL G F' l xs
theorem antiM {G : Gx} {m : Bool} : Anti (relM G m) := fun _ _ _ _ _ _ _ h => h
theorem antiL {G : Gx} {m : Bool} : Anti (relL G m) := fun _ _ _ _ _ _ _ h => h
theorem antiB : Anti relB := fun _ _ _ _ _ _ _ h => h
theorem antiO {G : Gx} : Anti (relO G) := fun H H1 F' H' d v s ⟨a, xs, l, h1, h2, h3, h4⟩ => ⟨a, xs, l, h1, h2, s.free h3, h4⟩
abbrev Post (G : Gx) (E : XK) (m : Bool) := PostG G E (relM G m)
abbrev PostL (G : Gx) (E : XK) (m : Bool) := PostG G E (relL G m)
abbrev PostB (G : Gx) (E : XK) := PostG G E relB
abbrev PostO (G : Gx) (E : XK) := PostG G E (relO G)

/-! ### the judgements -/
section
variable {ι : Type} (X : ι → Cx) (G : Gx) (E : XK)
structure EM (m : Bool) (O : List Nat) (e : Expr) (f : Ev → R D) : Prop where
  ex : ∃ t : TE, (∀ i, PE (X i) e t) ∧ ∀ F0 H0 F σ H env Q, Rel G F0 H0 O F σ H env → Post G E m F H (f env) Q → t σ H Q
/-- a new list of one's own -/
structure EO (O : List Nat) (e : Expr) (f : Ev → R D) : Prop where
  ex : ∃ t : TE, (∀ i, PE (X i) e t) ∧ ∀ F0 H0 F σ H env Q, Rel G F0 H0 O F σ H env → PostO G E F H (f env) Q → t σ H Q
structure TM (O : List Nat) (e : Expr) (f : Ev → R Bool) : Prop where
  ex : ∃ t : TT, (∀ i, PT (X i) e t) ∧ ∀ F0 H0 F σ H env Q, Rel G F0 H0 O F σ H env → PostB G E F H (f env) Q → t σ H Q
structure WM (O : List Nat) (e : Expr) (f : Ev → R Bool) : Prop where
  ex : ∃ t : TT, (∀ i, PW (X i) e t) ∧ ∀ F0 H0 F σ H env Q, Rel G F0 H0 O F σ H env → PostB G E F H (f env) Q → t σ H Q
structure AM (m : Bool) (O : List Nat) (es : List Expr) (f : Ev → R (List D)) : Prop where
  ex : ∃ t : TA, (∀ i, PA (X i) es t) ∧ ∀ F0 H0 F σ H env Q, Rel G F0 H0 O F σ H env → PostL G E m F H (f env) Q → t σ H Q
/-- an operator -/
structure OpM (m : Bool) (f : Value → Value → Sem Value) (op : D → D → R D) : Prop where
  ex : ∃ r : R2, (∀ i, OpR (X i) f r) ∧ ∀ F H x y d e Q, Same F H → Rep G (wd m F H) d x → Rep G (wd m F H) e y → Post G E m F H (op d e) Q → r x y H Q
end

/-! ### names, constants -/
@[simp] def eVar (i : Nat) : Ev → R D := fun env => match Ev.get env i with
  | some d => .ok d
  | none => .bad
@[simp] def eInt (i : Int) : Ev → R D := fun _ => .ok (.int i)
@[simp] def eBl (b : Bool) : Ev → R D := fun _ => .ok (.bl b)
@[simp] def eNon : Ev → R D := fun _ => .ok .non
@[simp] def eStr (x : String) : Ev → R D := fun _ => .ok (.str x.toList)
theorem mkS_of (x : String) : mkS x.toList = Str.ofString x := TL.ext_tl (by rw [TL.tl_ofString]; rfl)
theorem rep_str {G : Gx} {F : Hp} (x : String) : Rep G F (.str x.toList) (.str (Str.ofString x)) := by
  show V.str _ = V.str _
  rw [mkS_of]

section
variable {ι : Type} {X : ι → Cx} {G : Gx} {E : XK} {N : List Str} {k : Nat} {m : Bool} {O : List Nat}
theorem em_var (C : CxOk X G N k E) (i : Nat) {x : Str} {pos : Pos} (hm : (!m || !decide (i ∈ O)) = true) (hN : N[i]? = some x) (hv : ∀ j, Vis (X j).env.scope x) (hd : (x == ("__debug__" : Str)) = false := by decide)
    (hcd : (x == ("__classdict__" : Str)) = false := by decide) : EM X G E m O (.Name x pos) (eVar i) := by
  refine ⟨tVar i, fun j => pe_var (by rw [C.eN j]; exact hN) (hv j) hd hcd, fun F0 H0 F σ H env Q r h => ?_⟩
  unfold eVar at h
  cases he : Ev.get env i with
  | none => rw [he] at h; exact h.elim
  | some d =>
    rw [he] at h
    cases m with
    | false =>
      obtain ⟨v, e1, h1⟩ := r.heap i d he
      exact ⟨v, e1, h v F H (.refl r.ext.i) h1⟩
    | true =>
      obtain ⟨v, e1, h1, _⟩ := r.val i d he
      exact ⟨v, e1, h v F H (.refl r.ext.i) (h1 (by simpa using hm))⟩
theorem em_int {i j pos} : EM X G E m O (.Constant (.int i) j pos) (eInt i) := ⟨_, fun _ => pe_int, fun F0 H0 F σ H env Q r h => h _ F H (.refl r.ext.i) rfl⟩
theorem em_bl {i j pos} : EM X G E m O (.Constant (.bool i) j pos) (eBl i) := ⟨_, fun _ => pe_bl, fun F0 H0 F σ H env Q r h => h _ F H (.refl r.ext.i) rfl⟩
theorem em_non {j pos} : EM X G E m O (.Constant .none j pos) eNon := ⟨_, fun _ => pe_non, fun F0 H0 F σ H env Q r h => h _ F H (.refl r.ext.i) rfl⟩
theorem em_str {x : String} {j pos} : EM X G E m O (.Constant (.str (Str.ofString x)) j pos) (eStr x) := ⟨_, fun _ => pe_str, fun F0 H0 F σ H env Q r h => h _ F H (.refl r.ext.i) (rep_str x)⟩
/-- a borrowed answer of a kept one -/
theorem EM.weak {e : Expr} {f : Ev → R D} (h : EM X G E true O e f) : EM X G E false O e f := by
  obtain ⟨t, ht, rd⟩ := h.ex
  refine ⟨t, ht, fun F0 H0 F σ H env Q r hq => rd F0 H0 F σ H env Q r ?_⟩
  cases hf : f env with
  | ok d => rw [hf] at hq; exact fun v F' H' e rv => hq v F' H' e (rv.mono e.i _ _)
  | err c => rw [hf] at hq; exact hq
  | bad => rw [hf] at hq; exact hq
theorem EO.em {e : Expr} {f : Ev → R D} (h : EO X G E O e f) : EM X G E m O e f := by
  obtain ⟨t, ht, rd⟩ := h.ex
  refine ⟨t, ht, fun F0 H0 F σ H env Q r hq => rd F0 H0 F σ H env Q r ?_⟩
  cases hf : f env with
  | ok d =>
    rw [hf] at hq
    rintro v F' H' e ⟨a, xs, l, rfl, rfl, h0, h1, h2, h3⟩
    have sF : Same F' (upd F' a (.lst xs)) := same_upd' h1
    refine hq (.ref a) (upd F' a (.lst xs)) H' ⟨e.f.trans sF, e.h, fun b o eb => ?_, fun b hb => ?_, e.s⟩ ?_
    · by_cases q : b = a
      · subst q; rw [upd_same] at eb; cases eb; exact h2
      · rw [upd_ne q] at eb; exact e.i _ _ eb
    · rw [upd_ne fun z => hb (by rw [z]; exact h0)]; exact e.n b hb
    · cases m with
      | true => exact ⟨a, xs, rfl, upd_same, h3.mono sF⟩
      | false => exact ⟨a, xs, rfl, h2, h3.mono e.i⟩
  | err c => rw [hf] at hq; exact hq
  | bad => rw [hf] at hq; exact hq

/-! ### operators -/
@[simp] def eOp (op : D → D → R D) (f g : Ev → R D) : Ev → R D := fun env => (f env).bind fun a => (g env).bind fun b => op a b
variable {a b : Expr} {fa fb : Ev → R D} {pos : Pos}
theorem EM.two (ha : EM X G E m O a fa) (hb : EM X G E m O b fb) {op : D → D → R D} :
    ∃ ta tb : TE, (∀ i, PE (X i) a ta) ∧ (∀ i, PE (X i) b tb) ∧ ∀ F0 H0 F σ H env Q (m' : Bool), Rel G F0 H0 O F σ H env → Post G E m' F H (eOp op fa fb env) Q → ∀ (r : R2),
      (∀ F H x y d e, Same F H → Rep G (wd m F H) d x → Rep G (wd m F H) e y → Post G E m' F H (op d e) Q → r x y H Q) → tOp r ta tb σ H Q := by
  obtain ⟨ta, pa, ra⟩ := ha.ex
  obtain ⟨tb, pb, rb⟩ := hb.ex
  refine ⟨ta, tb, pa, pb, fun F0 H0 F σ H env Q m' rl h r hr => ?_⟩
  refine ra F0 H0 F σ H env _ rl (PostG.bind antiM h fun x vx F1 H1 e1 r1 h1 => ?_)
  refine rb F0 H0 F1 σ H1 env _ (rl.grow e1) (PostG.bind antiM h1 fun y vy F2 H2 e2 r2 h2 => ?_)
  exact hr F2 H2 vx vy x y e2.i (r1.mono (wd_mono e2) _ _) r2 h2
theorem em_op {op : Operator} {f : D → D → R D} (ho : OpM X G E m (binaryOp op) f) (ha : EM X G E m O a fa) (hb : EM X G E m O b fb) : EM X G E m O (.BinOp a op b pos) (eOp f fa fb) := by
  obtain ⟨r, hr, rd⟩ := ho.ex
  obtain ⟨ta, tb, pa, pb, q⟩ := EM.two (op := f) ha hb
  exact ⟨tOp r ta tb, fun i => pe_op (hr i) (pa i) (pb i), fun F0 H0 F σ H env Q rl h => q F0 H0 F σ H env Q m rl h r fun F H x y d e => rd F H x y d e Q⟩

/-- a comparison: its answer is a truth -/
structure CmM {ι : Type} (X : ι → Cx) (G : Gx) (f : Value → Value → Sem Value) (op : D → D → R Bool) : Prop where
  ex : ∃ r : R2, (∀ i, OpR (X i) f r) ∧ ∀ H x y d e Q, Rep G H d x → Rep G H e y → (∀ c, op d e = .ok c → Q (.bl c) H) → (∃ c, op d e = .ok c) → r x y H Q
@[simp] def eCm (op : D → D → R Bool) (f g : Ev → R D) : Ev → R D := fun env => (f env).bind fun a => (g env).bind fun b => (op a b).bind fun c => .ok (.bl c)
@[simp] def tCm (op : D → D → R Bool) (f g : Ev → R D) : Ev → R Bool := fun env => (f env).bind fun a => (g env).bind fun b => op a b
/-- a comparison's rule gives no exception -/
def NoErr (op : D → D → R Bool) : Prop := ∀ d e c, op d e ≠ .err c
theorem em_cmp {op : CmpOp} {f : D → D → R Bool} (ho : CmM X G (compareOp op) f) (hne : NoErr f) (ha : EM X G E false O a fa) (hb : EM X G E false O b fb) (hm : behindInMarks op b = false) :
    EM X G E m O (.Compare a [op] [b] pos) (eCm f fa fb) := by
  obtain ⟨r, hr, rd⟩ := ho.ex
  obtain ⟨ta, tb, pa, pb, q⟩ := EM.two (op := fun a b => (f a b).bind fun c => .ok (.bl c)) ha hb
  refine ⟨tOp r ta tb, fun i => pe_cmpR (hr i) (pa i) (pb i) hm, fun F0 H0 F σ H env Q rl h => q F0 H0 F σ H env Q m rl h r fun F H x y d e s rx ry hq => ?_⟩
  cases hc : f d e with
  | ok c => rw [hc] at hq; exact rd H x y d e Q rx ry (fun c' hc' => by rw [hc] at hc'; cases hc'; exact hq _ F H (.refl s) rfl) ⟨c, hc⟩
  | err c => exact absurd hc (hne d e c)
  | bad => rw [hc] at hq; exact hq.elim
theorem tm_cmp {op : CmpOp} {f : D → D → R Bool} (ho : CmM X G (compareOp op) f) (hne : NoErr f) (ha : EM X G E false O a fa) (hb : EM X G E false O b fb) (hm : behindInMarks op b = false) :
    TM X G E O (.Compare a [op] [b] pos) (tCm f fa fb) := by
  obtain ⟨r, hr, rd⟩ := ho.ex
  obtain ⟨ta, pa, ra⟩ := ha.ex
  obtain ⟨tb, pb, rb⟩ := hb.ex
  refine ⟨tTest (tOp r ta tb), fun i => pt_cmpR (hr i) (pa i) (pb i) hm, fun F0 H0 F σ H env Q rl h => ?_⟩
  refine ra F0 H0 F σ H env _ rl (PostG.bind antiB h fun x vx F1 H1 e1 r1 h1 => ?_)
  refine rb F0 H0 F1 σ H1 env _ (rl.grow e1) (PostG.bind antiB h1 fun y vy F2 H2 e2 r2 h2 => ?_)
  cases hc : f x y with
  | ok c => rw [hc] at h2; exact rd H2 vx vy x y _ (r1.mono (wd_mono e2) _ _) r2 (fun c' hc' => by rw [hc] at hc'; cases hc'; exact ⟨c, rfl, h2 c F2 H2 (.refl e2.i) rfl⟩) ⟨c, hc⟩
  | err c => exact absurd hc (hne x y c)
  | bad => rw [hc] at h2; exact h2.elim

/-! ### tests -/
@[simp] def tAndF (f g : Ev → R Bool) : Ev → R Bool := fun env => (f env).bind fun c => if c = true then g env else .ok false
@[simp] def tOrF (f g : Ev → R Bool) : Ev → R Bool := fun env => (f env).bind fun c => if c = true then .ok true else g env
@[simp] def tNotF (f : Ev → R Bool) : Ev → R Bool := fun env => (f env).bind fun c => .ok (!c)
@[simp] def tVal (f : Ev → R D) : Ev → R Bool := fun env => (f env).bind fun d => match d with
  | .bl c => .ok c
  | _ => .bad
variable {ga gb : Ev → R Bool} {rest : List Expr}
theorem WM.tm {e : Expr} (h : WM X G E O e ga) : TM X G E O e ga := let ⟨t, ht, rd⟩ := h.ex; ⟨t, fun i => (ht i).pt, rd⟩
theorem wm_and1 (ha : TM X G E O a ga) : WM X G E O (.BoolOp .And [a] pos) ga := let ⟨t, ht, rd⟩ := ha.ex; ⟨t, fun i => pw_and1 (ht i), rd⟩
theorem wm_or1 (ha : TM X G E O a ga) : WM X G E O (.BoolOp .Or [a] pos) ga := let ⟨t, ht, rd⟩ := ha.ex; ⟨t, fun i => pw_or1 (ht i), rd⟩
theorem wm_and (ha : TM X G E O a ga) (hb : WM X G E O (.BoolOp .And (b :: rest) pos) gb) : WM X G E O (.BoolOp .And (a :: b :: rest) pos) (tAndF ga gb) := by
  obtain ⟨t, ht, rd⟩ := ha.ex
  obtain ⟨u, hu, rd2⟩ := hb.ex
  refine ⟨tAnd t u, fun i => pw_and (ht i) (hu i), fun F0 H0 F σ H env Q rl h => rd F0 H0 F σ H env _ rl (PostG.bind antiB h fun x c F1 H1 e1 r1 h1 => ?_)⟩
  subst r1
  cases x with
  | true => exact rd2 F0 H0 F1 σ H1 env Q (rl.grow e1) h1
  | false => exact h1 false F1 H1 (.refl e1.i) rfl
theorem wm_or (ha : TM X G E O a ga) (hb : WM X G E O (.BoolOp .Or (b :: rest) pos) gb) : WM X G E O (.BoolOp .Or (a :: b :: rest) pos) (tOrF ga gb) := by
  obtain ⟨t, ht, rd⟩ := ha.ex
  obtain ⟨u, hu, rd2⟩ := hb.ex
  refine ⟨tOr t u, fun i => pw_or (ht i) (hu i), fun F0 H0 F σ H env Q rl h => rd F0 H0 F σ H env _ rl (PostG.bind antiB h fun x c F1 H1 e1 r1 h1 => ?_)⟩
  subst r1
  cases x with
  | true => exact h1 true F1 H1 (.refl e1.i) rfl
  | false => exact rd2 F0 H0 F1 σ H1 env Q (rl.grow e1) h1
theorem tm_not (ha : TM X G E O a ga) : TM X G E O (.UnaryOp .Not a pos) (tNotF ga) := by
  obtain ⟨t, ht, rd⟩ := ha.ex
  refine ⟨tNot t, fun i => pt_not (ht i), fun F0 H0 F σ H env Q rl h => rd F0 H0 F σ H env _ rl (PostG.bind antiB h fun x c F1 H1 e1 r1 h1 => ?_)⟩
  subst r1
  exact h1 _ F1 H1 (.refl e1.i) rfl
theorem tm_val {e : Expr} {f : Ev → R D} (h : EM X G E false O e f) (he : ∀ i whole, isTrue e (X i).env whole = (do let v ← whole; standAt e.pos; holding [v] (truthy v))) : TM X G E O e (tVal f) := by
  obtain ⟨t, ht, rd⟩ := h.ex
  refine ⟨tB t, fun i => pt_val (ht i) (he i), fun F0 H0 F σ H env Q rl h => rd F0 H0 F σ H env _ rl (PostG.bind antiB h fun x v F1 H1 e1 r1 h1 => ?_)⟩
  cases x with
  | bl c => cases r1; exact ⟨c, rfl, h1 c F1 H1 (.refl e1.i) rfl⟩
  | _ => exact h1.elim
/-- and, or of truths as values; not -/
@[simp] def eAnd (f g : Ev → R D) : Ev → R D := fun env => (f env).bind fun d => match d with
  | .bl true => g env
  | .bl false => .ok (.bl false)
  | _ => .bad
@[simp] def eOr (f g : Ev → R D) : Ev → R D := fun env => (f env).bind fun d => match d with
  | .bl true => .ok (.bl true)
  | .bl false => g env
  | _ => .bad
@[simp] def eNot (f : Ev → R D) : Ev → R D := fun env => (f env).bind fun d => match d with
  | .bl c => .ok (.bl (!c))
  | _ => .bad
theorem em_one {op} (h : EM X G E m O a fa) : EM X G E m O (.BoolOp op [a] pos) fa := let ⟨t, ht, rd⟩ := h.ex; ⟨t, fun i => pe_one (ht i), rd⟩
theorem em_and (ha : EM X G E false O a fa) (hb : EM X G E m O (.BoolOp .And (b :: rest) pos) fb) : EM X G E m O (.BoolOp .And (a :: b :: rest) pos) (eAnd fa fb) := by
  obtain ⟨t, ht, rd⟩ := ha.ex
  obtain ⟨u, hu, rd2⟩ := hb.ex
  refine ⟨tAndV t u, fun i => pe_and (ht i) (hu i), fun F0 H0 F σ H env Q rl h => rd F0 H0 F σ H env _ rl (PostG.bind antiM h fun x v F1 H1 e1 r1 h1 => ?_)⟩
  cases x with
  | bl c =>
    cases r1
    refine ⟨c, rfl, ?_⟩
    cases c with
    | true => exact rd2 F0 H0 F1 σ H1 env Q (rl.grow e1) h1
    | false => exact h1 _ F1 H1 (.refl e1.i) rfl
  | _ => exact h1.elim
theorem em_or (ha : EM X G E false O a fa) (hb : EM X G E m O (.BoolOp .Or (b :: rest) pos) fb) : EM X G E m O (.BoolOp .Or (a :: b :: rest) pos) (eOr fa fb) := by
  obtain ⟨t, ht, rd⟩ := ha.ex
  obtain ⟨u, hu, rd2⟩ := hb.ex
  refine ⟨tOrV t u, fun i => pe_or (ht i) (hu i), fun F0 H0 F σ H env Q rl h => rd F0 H0 F σ H env _ rl (PostG.bind antiM h fun x v F1 H1 e1 r1 h1 => ?_)⟩
  cases x with
  | bl c =>
    cases r1
    refine ⟨c, rfl, ?_⟩
    cases c with
    | false => exact rd2 F0 H0 F1 σ H1 env Q (rl.grow e1) h1
    | true => exact h1 _ F1 H1 (.refl e1.i) rfl
  | _ => exact h1.elim
theorem em_not (ha : EM X G E false O a fa) : EM X G E m O (.UnaryOp .Not a pos) (eNot fa) := by
  obtain ⟨t, ht, rd⟩ := ha.ex
  refine ⟨tNotV t, fun i => pe_not (ht i), fun F0 H0 F σ H env Q rl h => rd F0 H0 F σ H env _ rl (PostG.bind antiM h fun x v F1 H1 e1 r1 h1 => ?_)⟩
  cases x with
  | bl c =>
    cases r1
    exact ⟨c, rfl, h1 _ F1 H1 (.refl e1.i) rfl⟩
  | _ => exact h1.elim
/-- a if t else b -/
@[simp] def eIf (c : Ev → R Bool) (f g : Ev → R D) : Ev → R D := fun env => (c env).bind fun c => if c = true then f env else g env
theorem em_if {c : Expr} (hc : TM X G E O c ga) (ha : EM X G E m O a fa) (hb : EM X G E m O b fb) : EM X G E m O (.IfExp c a b pos) (eIf ga fa fb) := by
  obtain ⟨t, ht, rd⟩ := hc.ex
  obtain ⟨u, hu, rd2⟩ := ha.ex
  obtain ⟨v, hv, rd3⟩ := hb.ex
  refine ⟨tIf t u v, fun i => pe_ifExp (ht i) (hu i) (hv i), fun F0 H0 F σ H env Q rl h => rd F0 H0 F σ H env _ rl (PostG.bind antiM h fun x b F1 H1 e1 r1 h1 => ?_)⟩
  subst r1
  cases x with
  | true => exact rd2 F0 H0 F1 σ H1 env Q (rl.grow e1) h1
  | false => exact rd3 F0 H0 F1 σ H1 env Q (rl.grow e1) h1
theorem eo_if {c : Expr} (hc : TM X G E O c ga) (ha : EO X G E O a fa) (hb : EO X G E O b fb) : EO X G E O (.IfExp c a b pos) (eIf ga fa fb) := by
  obtain ⟨t, ht, rd⟩ := hc.ex
  obtain ⟨u, hu, rd2⟩ := ha.ex
  obtain ⟨v, hv, rd3⟩ := hb.ex
  refine ⟨tIf t u v, fun i => pe_ifExp (ht i) (hu i) (hv i), fun F0 H0 F σ H env Q rl h => rd F0 H0 F σ H env _ rl (PostG.bind antiO h fun x b F1 H1 e1 r1 h1 => ?_)⟩
  subst r1
  cases x with
  | true => exact rd2 F0 H0 F1 σ H1 env Q (rl.grow e1) h1
  | false => exact rd3 F0 H0 F1 σ H1 env Q (rl.grow e1) h1

/-! ### argument lists, displays -/
@[simp] def aNil : Ev → R (List D) := fun _ => .ok []
@[simp] def aCons (f : Ev → R D) (g : Ev → R (List D)) : Ev → R (List D) := fun env => (f env).bind fun d => (g env).bind fun ds => .ok (d :: ds)
variable {e : Expr} {es : List Expr} {f : Ev → R D} {g : Ev → R (List D)}
theorem am_nil : AM X G E m O [] aNil := ⟨_, fun _ => pa_nil, fun F0 H0 F σ H env Q rl h => h [] F H (.refl rl.ext.i) rfl⟩
theorem am_cons (ha : EM X G E m O e f) (hr : AM X G E m O es g) (hs : ∀ i, starEach (e :: es) (X i).env = (false, eval e (X i).env) :: starEach es (X i).env := by intro _; rfl) : AM X G E m O (e :: es) (aCons f g) := by
  obtain ⟨t, ht, rd⟩ := ha.ex
  obtain ⟨u, hu, rd2⟩ := hr.ex
  refine ⟨tCons t u, fun i => pa_cons (ht i) (hu i) (hs i), fun F0 H0 F σ H env Q rl h => rd F0 H0 F σ H env _ rl (PostG.bind antiL h fun x v F1 H1 e1 r1 h1 => ?_)⟩
  refine rd2 F0 H0 F1 σ H1 env _ (rl.grow e1) (PostG.bind antiL h1 fun y vs F2 H2 e2 r2 h2 => ?_)
  exact h2 (v :: vs) F2 H2 (.refl e2.i) ⟨v, vs, rfl, r1.mono (wd_mono e2) _ _, r2⟩
def line : Nat := 16777216
theorem line_eq : (sizeLine : Nat) = line := sizeLine_eq
@[simp] def eTup (g : Ev → R (List D)) : Ev → R D := fun env => (g env).bind fun ds => if ds.length ≤ line then .ok (.tup ds) else .bad
@[simp] def eLst (g : Ev → R (List D)) : Ev → R D := fun env => (g env).bind fun ds => if ds.length ≤ line then .ok (.lst ds) else .bad
theorem wd_upd {m : Bool} {F H : Hp} {p : Addr} {o : HO} : wd m (upd F p o) (upd H p o) = upd (wd m F H) p o := by cases m <;> rfl
theorem em_tup {x1} (h : AM X G E m O es g) : EM X G E m O (.Tuple es x1 pos) (eTup g) := by
  obtain ⟨t, ht, rd⟩ := h.ex
  refine ⟨tTup t, fun i => pe_tup (ht i), fun F0 H0 F σ H env Q rl h => rd F0 H0 F σ H env _ rl (PostG.bind antiM h fun ds vs F1 H1 e1 r1 h1 => ?_)⟩
  split at h1
  · rename_i hz
    refine ⟨by rw [r1.len, line_eq]; exact hz, fun p hp => ?_⟩
    refine h1 (.ref p) (upd F1 p (.tup vs)) _ (.new e1.i hp) ?_
    show Rep G (wd m _ _) _ _
    rw [wd_upd]
    exact ⟨p, vs, rfl, .inl (.inl upd_same), r1.mono (same_upd' ((wd_sub e1.i).free hp))⟩
  · exact h1.elim
theorem eo_lst (h : AM X G E true O es g) : EO X G E O (.List es pos) (eLst g) := by
  obtain ⟨t, ht, rd⟩ := h.ex
  refine ⟨tLst t, fun i => pe_lst (ht i), fun F0 H0 F σ H env Q rl h => rd F0 H0 F σ H env _ rl (PostG.bind antiO h fun ds vs F1 H1 e1 r1 h1 => ?_)⟩
  split at h1
  · rename_i hz
    refine ⟨by rw [r1.len, line_eq]; exact hz, fun p hp => ?_⟩
    exact h1 (.ref p) F1 _ (.own e1.i hp) ⟨p, vs, ds, rfl, rfl, hp, e1.i.free hp, upd_same, r1⟩
  · exact h1.elim
theorem em_lst (h : AM X G E m O es g) : EM X G E m O (.List es pos) (eLst g) := by
  obtain ⟨t, ht, rd⟩ := h.ex
  refine ⟨tLst t, fun i => pe_lst (ht i), fun F0 H0 F σ H env Q rl h => rd F0 H0 F σ H env _ rl (PostG.bind antiM h fun ds vs F1 H1 e1 r1 h1 => ?_)⟩
  split at h1
  · rename_i hz
    refine ⟨by rw [r1.len, line_eq]; exact hz, fun p hp => ?_⟩
    refine h1 (.ref p) (upd F1 p (.lst vs)) _ (.new e1.i hp) ?_
    show Rep G (wd m _ _) _ _
    rw [wd_upd]
    exact ⟨p, vs, rfl, upd_same, r1.mono (same_upd' ((wd_sub e1.i).free hp))⟩
  · exact h1.elim
end
end G81

set_option maxHeartbeats 4000000
namespace L2
open PySem PySem.Spec PyProof.Rows
theorem tuple_mulZ (l : Addr) (items : Array Value) (n : Nat) (dd : Option Addr) (sl : Array (Option Value)) (x : Int) (u : Tok) (c0 : (decide (x < -(2 ^ 63)) || decide (x ≥ 2 ^ 63)) = false) (c1 : (items.isEmpty || x == 1) = false) (c2 : (decide (x ≤ 0) || items.isEmpty) = true) :
    Meets (Builtin.«tuple.__mul__» ⟨[.ref l, .int x u], []⟩) (fun _ R s => s.heap.get? l = some { cls := .type "tuple", dict := dd, data := .seq items n, slots := sl } ∧
      R (.ok (.ret (Value.ref s.heap.objs.size))) { s with heap := s.heap.push { cls := Value.type "tuple", data := Data.seq #[] }, toks := s.toks }) :=
  .of_wp fun prog w A R s h => by
    obtain ⟨hp, g, d, tk, os⟩ := s
    obtain ⟨hl, h⟩ := h
    have f1 := AutoSeq1.idx_int
    wp_walk using wpAny_loadPart' hl
    repeat (first
      | (refine wpAny_ite_false (decide_eq_false (by rw [c0]; exact Bool.false_ne_true)) ?_; wp_walk using wpAny_loadPart' hl)
      | (refine wpAny_ite_false (decide_eq_false (by rw [c1]; exact Bool.false_ne_true)) ?_; wp_walk using wpAny_loadPart' hl)
      | (refine wpAny_ite_true (decide_eq_true c2) ?_; wp_walk using wpAny_loadPart' hl))
    exact ⟨_, rfl, h⟩
theorem tuple_mulS (l : Addr) (items : Array Value) (n : Nat) (dd : Option Addr) (sl : Array (Option Value)) (x : Int) (u : Tok) (c0 : (decide (x < -(2 ^ 63)) || decide (x ≥ 2 ^ 63)) = false) (c1 : (items.isEmpty || x == 1) = true) :
    Meets (Builtin.«tuple.__mul__» ⟨[.ref l, .int x u], []⟩) (fun _ R s => s.heap.get? l = some { cls := .type "tuple", dict := dd, data := .seq items n, slots := sl } ∧
      R (.ok (.ret (Value.ref l))) s) :=
  .of_wp fun prog w A R s h => by
    obtain ⟨hp, g, d, tk, os⟩ := s
    obtain ⟨hl, h⟩ := h
    have f1 := AutoSeq1.idx_int
    wp_walk using wpAny_loadPart' hl
    repeat (first
      | (refine wpAny_ite_false (decide_eq_false (by rw [c0]; exact Bool.false_ne_true)) ?_; wp_walk using wpAny_loadPart' hl)
      | (refine wpAny_ite_true (decide_eq_true c1) ?_; wp_walk using wpAny_loadPart' hl))
    exact ⟨_, rfl, h⟩
section
variable {X : Cx}
theorem hb_rng {k : Int} (h1 : -1000000 < k) (h2 : k < 1000000) : (decide (k < -(2 ^ 63)) || decide (k ≥ 2 ^ 63)) = false := by
  rw [decide_eq_false (by omega), decide_eq_false (by omega)] <;> rfl
/-- t * k of nothing, t * 1: t itself -/
def rRepS (K : PySem.W.Frag) : R2 := fun x y H Q => ∃ l k xs, x = .ref l ∧ y = .int k ∧ SqT K H l xs ∧ (xs = [] ∨ k = 1) ∧ -1000000 < k ∧ k < 1000000 ∧ Q (.ref l) H
theorem op_repS1 : OpR X (binaryOp .Mult) (rRepS X.K) := by
  intro pins s σ H x y v u Q I rx ry h
  obtain ⟨l, k, xs, rfl, rfl, hT, hne, h1, h2, q⟩ := h
  cases rx
  obtain ⟨t, rfl⟩ := ry
  obtain ⟨its, r, ⟨⟨cls, dd, data, sl⟩, ho, hc, n, hd⟩, hs⟩ := I.tuple hT
  simp only at hc hd
  subst hc hd
  have hle : its.length = xs.length := r.length.symm
  have c1 : (its.toArray.isEmpty || k == 1) = true := by
    rcases hne with e | e
    · subst e
      have : its = [] := List.eq_nil_of_length_eq_zero hle
      subst this; rfl
    · subst e; simp
  refine wpAny_binaryOp_repeat_ref (T := "tuple") (U := "int") (by decide) ⟨_, ho, rfl⟩ (fun s' => typeIs_int s' k t) noFill_tuple_mul F.fills_int_mul F.slot_int_rmul repeat_tuple F.slot_int_index.lookup
    (call_meets F.slot_int_rmul (typeIs_int s k t) F.entry_int_rmul (F.args_int_rmul_2 _ _) (int_rmul_tuple k t l its.toArray n dd sl)
      ⟨ho, rfl, ⟨_, ho, rfl⟩, call_meets F.slot_tuple_mul ⟨_, ho, rfl⟩ F.entry_tuple_mul (F.args_tuple_mul_2 _ _) (tuple_mulS l its.toArray n dd sl k t (hb_rng h1 h2) c1) ⟨ho, ?_⟩⟩)
  exact ⟨.ref l, H, I, rfl, q⟩
/-- t * k, k none or less: an empty one -/
def rRepZ (K : PySem.W.Frag) : R2 := fun x y H Q => ∃ l k xs, x = .ref l ∧ y = .int k ∧ SqT K H l xs ∧ xs ≠ [] ∧ -1000000 < k ∧ k ≤ 0 ∧ ∀ p, H p = none → Q (.ref p) (upd H p (.tup []))
theorem op_repZ : OpR X (binaryOp .Mult) (rRepZ X.K) := by
  intro pins s σ H x y v u Q I rx ry h
  obtain ⟨l, k, xs, rfl, rfl, hT, hne, h1, h2, q⟩ := h
  cases rx
  obtain ⟨t, rfl⟩ := ry
  obtain ⟨its, r, ⟨⟨cls, dd, data, sl⟩, ho, hc, n, hd⟩, hs⟩ := I.tuple hT
  simp only at hc hd
  subst hc hd
  have hle : its.length = xs.length := r.length.symm
  have hi : its.toArray.isEmpty = false := by
    cases its with
    | nil => exact absurd (List.eq_nil_of_length_eq_zero hle.symm) hne
    | cons a b => rfl
  have c1 : (its.toArray.isEmpty || k == 1) = false := by
    rw [hi, Bool.false_or]
    exact beq_eq_false_iff_ne.mpr (by omega)
  have c2 : (decide (k ≤ 0) || its.toArray.isEmpty) = true := by
    rw [decide_eq_true h2]; rfl
  refine wpAny_binaryOp_repeat_ref (T := "tuple") (U := "int") (by decide) ⟨_, ho, rfl⟩ (fun s' => typeIs_int s' k t) noFill_tuple_mul F.fills_int_mul F.slot_int_rmul repeat_tuple F.slot_int_index.lookup
    (call_meets F.slot_int_rmul (typeIs_int s k t) F.entry_int_rmul (F.args_int_rmul_2 _ _) (int_rmul_tuple k t l its.toArray n dd sl)
      ⟨ho, rfl, ⟨_, ho, rfl⟩, call_meets F.slot_tuple_mul ⟨_, ho, rfl⟩ F.entry_tuple_mul (F.args_tuple_mul_2 _ _) (tuple_mulZ l its.toArray n dd sl k t (hb_rng h1 (by omega)) c1 c2) ⟨ho, ?_⟩⟩)
  refine ⟨.ref s.heap.objs.size, _, I.laid (t' := s.toks) (o := .tup []) (fun b ob q => Heap.get?_push_of_some _ q) (Nat.le_refl _) ?_, rfl, q _ (I.hok.fresh (Nat.le_refl _))⟩
  exact ⟨by simp, _, .nil, IsTup.new _ _⟩
end
end L2

/-! Operators of the data layer. -/
namespace G81
open PySem PySem.Spec PyProof.Rows L2

section
variable {ι : Type} {X : ι → Cx} {G : Gx} {E : XK} {N : List Str} {k : Nat} {m : Bool}

/-! ### + -/
@[simp] def dAdd : D → D → R D
  | .int i, .int j => .ok (.int (i + j))
  | .str a, .str b => if a.length + b.length ≤ line then .ok (.str (a ++ b)) else .bad
  | .lst a, .lst b => if a.length + b.length ≤ line then .ok (.lst (a ++ b)) else .bad
  | .tup a, .tup b => if a.length + b.length ≤ line then .ok (.tup (a ++ b)) else .bad
  | _, _ => .bad
theorem str_app (a b : List Char) : mkS a ++ mkS b = mkS (a ++ b) := by
  show (⟨(a.map Char.toNat).toArray ++ (b.map Char.toNat).toArray⟩ : Str) = _
  simp [mkS]
theorem str_len (a : List Char) : (mkS a).length = a.length := by
  show (a.map Char.toNat).toArray.size = _
  simp
theorem rep_lst {F H : Hp} {l : List D} {x : V} (i : Same F H) (h : Rep G (wd m F H) (.lst l) x) : ∃ a xs, x = .ref a ∧ H a = some (.lst xs) ∧ wd m F H a = some (.lst xs) ∧ RepL G (wd m F H) l xs :=
  let ⟨a, xs, e, h1, h2⟩ := h
  ⟨a, xs, e, wd_sub i _ _ h1, h1, h2⟩
theorem rep_tup {F H : Hp} {l : List D} {x : V} (i : Same F H) (h : Rep G (wd m F H) (.tup l) x) : ∃ a xs, x = .ref a ∧ SqT G.K H a xs ∧ SqT G.K (wd m F H) a xs ∧ RepL G (wd m F H) l xs :=
  let ⟨a, xs, e, h1, h2⟩ := h
  ⟨a, xs, e, same_sqT (wd_sub i) h1, h1, h2⟩
theorem post_new {F H : Hp} {d : D} {Q : VK} {p : Addr} {o : HO} (h : Post G E m F H (.ok d) Q) (i : Same F H) (hp : H p = none) (hr : Rep G (upd (wd m F H) p o) d (.ref p)) : Q (.ref p) (upd H p o) := by
  refine h (.ref p) (upd F p o) _ (.new i hp) ?_
  show Rep G (wd m _ _) _ _
  rw [wd_upd]
  exact hr
theorem opm_add (C : CxOk X G N k E) : OpM X G E m (binaryOp .Add) dAdd := by
  refine ⟨_, fun i => (((op_add.or op_add_str).or op_cat).or (by have q := op_catA (X := X i); rw [C.eK i] at q; exact q)), fun F H x y d e Q s rx ry h => ?_⟩
  cases d <;> cases e <;> first | exact h.elim | skip
  · cases rx; cases ry
    exact .inl (.inl (.inl ⟨_, _, rfl, rfl, h _ F H (.refl s) rfl⟩))
  · cases rx; cases ry
    simp only [dAdd] at h
    split at h
    · rename_i a b hz
      refine .inl (.inl (.inr ⟨_, _, rfl, rfl, by rw [str_len, str_len, line_eq]; exact hz, h _ F H (.refl s) ?_⟩))
      show V.str _ = V.str _
      rw [str_app]
    · exact h.elim
  · obtain ⟨a, xs, rfl, h1, h2, h3⟩ := rep_lst s rx
    obtain ⟨b, ys, rfl, h4, h5, h6⟩ := rep_lst s ry
    simp only [dAdd] at h
    split at h
    · rename_i hz
      refine .inl (.inr ⟨a, b, xs, ys, rfl, rfl, h1, h4, by rw [h3.len, h6.len, line_eq]; exact hz, fun p hp => post_new h s hp ?_⟩)
      exact ⟨p, _, rfl, upd_same, (h3.app h6).mono (same_upd' ((wd_sub s).free hp))⟩
    · exact h.elim
  · obtain ⟨a, xs, rfl, h1, h2, h3⟩ := rep_tup s rx
    obtain ⟨b, ys, rfl, h4, h5, h6⟩ := rep_tup s ry
    simp only [dAdd] at h
    split at h
    · rename_i la lb hz
      refine .inr ⟨a, b, xs, ys, rfl, rfl, h1, h4, by rw [h3.len, h6.len, line_eq]; exact hz, fun e => ?_, fun _ e => ?_, fun _ _ p hp => post_new h s hp ?_⟩
      · subst e
        have : la = [] := List.eq_nil_of_length_eq_zero (by have := h3.len; simpa using this.symm)
        subst this
        exact h (.ref b) F H (.refl s) ⟨b, ys, rfl, h5, h6⟩
      · subst e
        have : lb = [] := List.eq_nil_of_length_eq_zero (by have := h6.len; simpa using this.symm)
        subst this
        exact h (.ref a) F H (.refl s) (by rw [List.append_nil]; exact ⟨a, xs, rfl, h2, h3⟩)
      · exact ⟨p, _, rfl, .inl (.inl upd_same), (h3.app h6).mono (same_upd' ((wd_sub s).free hp))⟩
    · exact h.elim

/-! ### -, *, //, % -/
@[simp] def dSub : D → D → R D
  | .int i, .int j => .ok (.int (i - j))
  | _, _ => .bad
theorem opm_sub : OpM X G E m (binaryOp .Sub) dSub := by
  refine ⟨_, fun i => op_sub, fun F H x y d e Q s rx ry h => ?_⟩
  cases d <;> cases e <;> first | exact h.elim | skip
  cases rx; cases ry
  exact ⟨_, _, rfl, rfl, h _ F H (.refl s) rfl⟩
@[simp] def dFdiv : D → D → R D
  | .int i, .int j => if 0 < j ∧ j < 1073741824 then .ok (.int (i / j)) else .bad
  | _, _ => .bad
theorem opm_fdiv : OpM X G E m (binaryOp .FloorDiv) dFdiv := by
  refine ⟨_, fun i => op_fdiv, fun F H x y d e Q s rx ry h => ?_⟩
  cases d <;> cases e <;> first | exact h.elim | skip
  cases rx; cases ry
  simp only [dFdiv] at h
  split at h
  · rename_i hz; exact ⟨_, _, rfl, rfl, hz, h _ F H (.refl s) rfl⟩
  · exact h.elim
@[simp] def dMod : D → D → R D
  | .int i, .int j => if 0 < j then .ok (.int (i % j)) else .bad
  | _, _ => .bad
theorem opm_mod : OpM X G E m (binaryOp .Mod) dMod := by
  refine ⟨_, fun i => op_mod, fun F H x y d e Q s rx ry h => ?_⟩
  cases d <;> cases e <;> first | exact h.elim | skip
  cases rx; cases ry
  simp only [dMod] at h
  split at h
  · rename_i hz; exact ⟨_, _, rfl, rfl, hz, h _ F H (.refl s) rfl⟩
  · exact h.elim
/-- an int is small enough to be a factor -/
def smallF (i : Int) : Prop := -(2 ^ 64) < i ∧ i < 2 ^ 64
noncomputable instance (i : Int) : Decidable (smallF i) := Classical.propDecidable _
def repOk (n : Nat) (k : Int) : Prop := -1000000 < k ∧ k < 1000000 ∧ n * k.toNat ≤ 1000000
noncomputable instance (n : Nat) (k : Int) : Decidable (repOk n k) := Classical.propDecidable _
@[simp] noncomputable def dMul : D → D → R D
  | .int i, .int j => if smallF i ∨ smallF j then .ok (.int (i * j)) else .bad
  | .str a, .int j => if repOk a.length j then .ok (.str (List.replicate j.toNat a).flatten) else .bad
  | .lst a, .int j => if repOk a.length j then .ok (.lst (List.replicate j.toNat a).flatten) else .bad
  | .tup a, .int j => if repOk a.length j ∧ j ≤ 1000 ∧ a.length ≤ 1000 then .ok (.tup (List.replicate j.toNat a).flatten) else .bad
  | _, _ => .bad
theorem rep_flat (a : List Nat) (acc : List Nat) : ∀ n : Nat, (List.replicate n a.toArray).foldl (· ++ ·) acc.toArray = (acc ++ (List.replicate n a).flatten).toArray
  | 0 => by simp
  | n + 1 => by
    rw [List.replicate_succ, List.foldl_cons, List.replicate_succ, List.flatten_cons, ← List.append_assoc]
    have e : acc.toArray ++ a.toArray = (acc ++ a).toArray := by simp
    rw [e]
    exact rep_flat a (acc ++ a) n
theorem rep_one (a : List Nat) : (List.replicate 1 a).flatten = a := by simp
theorem flat_nil {α : Type} (n : Nat) : (List.replicate n ([] : List α)).flatten = [] := by
  induction n with
  | zero => rfl
  | succ n ih => rw [List.replicate_succ, List.flatten_cons, ih]; rfl
theorem op_repS {Y : Cx} : OpR Y (binaryOp .Mult) (fun x y H Q => ∃ a j, x = .str (mkS a) ∧ y = .int j ∧ repOk a.length j ∧ Q (.str (mkS (List.replicate j.toNat a).flatten)) H) := by
  intro pins s σ H x y v u Q I rx ry h
  obtain ⟨a, j, rfl, rfl, ⟨hj1, hj2, hj3⟩, q⟩ := h
  obtain ⟨t, rfl⟩ := rx
  obtain ⟨t', rfl⟩ := ry
  refine PySem.P.mul_str ?_ (fun h1 h2 h3 => ?_) (fun h1 h2 => ?_) ?_
  · simp only [Bool.or_eq_false_iff, decide_eq_false_iff_not]; omega
  · rw [str_len] at h3
    have hle : (a.length : Int) * j ≤ 1000000 := by
      have e : ((a.length * j.toNat : Nat) : Int) = (a.length : Int) * j := by rw [Int.natCast_mul, Int.toNat_of_nonneg (by omega)]
      omega
    have h4 : ((2 : Int) ^ 63 - 1) / j * j ≤ 2 ^ 63 - 1 := Int.ediv_mul_le _ (by omega)
    have h5 : ((2 : Int) ^ 63 - 1) < (a.length : Int) * j := by
      have : ((2 : Int) ^ 63 - 1) / j + 1 ≤ a.length := h3
      have h6 : ((2 : Int) ^ 63 - 1) < (((2 : Int) ^ 63 - 1) / j + 1) * j := by
        rw [Int.add_mul, Int.one_mul]
        have := Int.emod_lt_of_pos ((2 : Int) ^ 63 - 1) (show 0 < j by omega)
        have := Int.ediv_mul_add_emod ((2 : Int) ^ 63 - 1) j
        omega
      exact Int.lt_of_lt_of_le h6 (Int.mul_le_mul_of_nonneg_right this (by omega))
    omega
  · rw [str_len]
    show decide _ = false
    exact decide_eq_false (by rw [sizeLine_eq]; omega)
  · split
    · rename_i hlt
      have e : j.toNat = 0 := by omega
      rw [e] at q
      refine ⟨by decide, ?_⟩
      exact ⟨.str Str.empty, H, I.tok _, ⟨_, rfl⟩, q⟩
    · rename_i hlt
      split
      · rename_i hc
        have e : (List.replicate j.toNat a).flatten = a := by
          rw [Bool.or_eq_true] at hc
          rcases hc with hc | hc
          · have : j = 1 := by simpa using hc
            subst this
            simp
          · rw [str_len] at hc
            have : a = [] := List.eq_nil_of_length_eq_zero (by simpa using hc)
            subst this
            exact flat_nil _
        rw [e] at q
        exact ⟨.str (mkS a), H, I, ⟨_, rfl⟩, q⟩
      · have e := rep_flat (a.map Char.toNat) [] j.toNat
        rw [List.nil_append] at e
        have e2 : (List.foldl (fun x1 x2 => x1 ++ x2) #[] (List.replicate j.toNat (mkS a).cps)) = ((List.replicate j.toNat a).flatten.map Char.toNat).toArray := by
          rw [List.map_flatten, List.map_replicate]; exact e
        rw [e2]
        refine ⟨?_, ⟨.str (mkS (List.replicate j.toNat a).flatten), H, I.tok _, ⟨_, rfl⟩, q⟩⟩
        show (mkS (List.replicate j.toNat a).flatten).length ≤ _
        rw [str_len, PyProof.Rows.lm_len_rep_flat, sizeLine_eq, Nat.mul_comm]
        omega
theorem len_flat {α : Type} (n : Nat) (a : List α) : (List.replicate n a).flatten.length = n * a.length := by
  induction n with
  | zero => simp
  | succ n ih => rw [List.replicate_succ, List.flatten_cons, List.length_append, ih, Nat.succ_mul, Nat.add_comm]
theorem opm_mul (C : CxOk X G N k E) : OpM X G E m (binaryOp .Mult) dMul := by
  refine ⟨_, fun i => (((op_mul.or op_repS).or op_rep).or (((by have q := op_repT (X := X i); rw [C.eK i] at q; exact q) : OpR (X i) _ (rRepT G.K)).or (((by have q := op_repS1 (X := X i); rw [C.eK i] at q; exact q) : OpR (X i) _ (rRepS G.K)).or ((by have q := op_repZ (X := X i); rw [C.eK i] at q; exact q) : OpR (X i) _ (rRepZ G.K))))), fun F H x y d e Q s rx ry h => ?_⟩
  cases d <;> cases e <;> first | exact h.elim | skip
  · cases rx; cases ry
    simp only [dMul] at h
    split at h
    · rename_i hz; exact .inl (.inl (.inl ⟨_, _, rfl, rfl, hz, h _ F H (.refl s) rfl⟩))
    · exact h.elim
  · cases rx; cases ry
    simp only [dMul] at h
    split at h
    · rename_i hz; exact .inl (.inl (.inr ⟨_, _, rfl, rfl, hz, h _ F H (.refl s) rfl⟩))
    · exact h.elim
  · obtain ⟨a, xs, rfl, h1, h2, h3⟩ := rep_lst s rx
    cases ry
    simp only [dMul] at h
    split at h
    · rename_i hz
      obtain ⟨z1, z2, z3⟩ := hz
      refine .inl (.inr ⟨a, _, xs, rfl, rfl, h1, by omega, by omega, by rw [h3.len, sizeLine_eq]; omega, fun p hp => post_new h s hp ?_⟩)
      exact ⟨p, _, rfl, upd_same, (h3.rep _).mono (same_upd' ((wd_sub s).free hp))⟩
    · exact h.elim
  · obtain ⟨a, xs, rfl, h1, h2, h3⟩ := rep_tup s rx
    cases ry
    simp only [dMul] at h
    split at h
    · rename_i hz
      obtain ⟨⟨z1, z2, z3⟩, z5, z6⟩ := hz
      rename_i l j
      by_cases hn : xs = []
      · refine .inr (.inr (.inl ⟨a, _, xs, rfl, rfl, h1, .inl hn, z1, z2, ?_⟩))
        have e : (List.replicate j.toNat l).flatten = l := by
          have : l = [] := List.eq_nil_of_length_eq_zero (by rw [← h3.len, hn]; rfl)
          rw [this]; exact flat_nil _
        rw [e] at h
        exact h _ F H (.refl s) ⟨a, xs, rfl, h2, h3⟩
      · by_cases h4 : j = 1
        · subst h4
          refine .inr (.inr (.inl ⟨a, _, xs, rfl, rfl, h1, .inr rfl, z1, z2, ?_⟩))
          have e : (List.replicate (1 : Int).toNat l).flatten = l := by simp
          rw [e] at h
          exact h _ F H (.refl s) ⟨a, xs, rfl, h2, h3⟩
        · by_cases h5 : j ≤ 0
          · refine .inr (.inr (.inr ⟨a, _, xs, rfl, rfl, h1, hn, z1, h5, fun p hp => post_new h s hp ?_⟩))
            have e : (List.replicate j.toNat l).flatten = [] := by
              rw [show j.toNat = 0 by omega]; rfl
            rw [e]
            exact ⟨p, [], rfl, .inl (.inl upd_same), rfl⟩
          · refine .inr (.inl ⟨a, _, xs, rfl, rfl, h1, hn, by omega, z5, by rw [h3.len]; exact z6, fun p hp => post_new h s hp ?_⟩)
            exact ⟨p, _, rfl, .inl (.inl upd_same), (h3.rep _).mono (same_upd' ((wd_sub s).free hp))⟩
    · exact h.elim
end

/-! ### comparisons -/
mutual
def toP : D → PyData
  | .non => .none
  | .bl b => .bool b
  | .int i => .int i
  | .str s => .str (mkS s)
  | .lst l => .list (toPs l)
  | .tup l => .tuple (toPs l)
  | .scr l => .list (l.map PyData.int)
  | _ => .none
def toPs : List D → List PyData
  | [] => []
  | d :: ds => toP d :: toPs ds
end
mutual
@[simp] def cmD : D → Bool
  | .lst l => cmDs l
  | .tup l => cmDs l
  | .dic _ _ => false
  | .exc _ => false
  | .fn _ => false
  | _ => true
@[simp] def cmDs : List D → Bool
  | [] => true
  | d :: ds => cmD d && cmDs ds
end
def shD (d : D) : Bool := cmD d && SeqAt.shaped (toP d)
def eqD (d e : D) : Bool := PyData.eqv (toP d) (toP e)
theorem dpAll_ints {K : PySem.W.Frag} {H : Hp} : ∀ l : List Int, DpAll K H (l.map V.int) (l.map PyData.int)
  | [] => .nil
  | i :: l => .cons (.int i) (dpAll_ints l)
mutual
theorem rep_dp {G : Gx} {H : Hp} : ∀ (d : D) (v : V), cmD d = true → Rep G H d v → Dp G.K H v (toP d)
  | .non, v, _, h => by cases h; exact .non
  | .bl b, v, _, h => by cases h; exact .bl b
  | .int b, v, _, h => by cases h; exact .int b
  | .str b, v, _, h => by cases h; exact .str _
  | .lst l, v, c, ⟨a, xs, e, h1, h2⟩ => by subst e; exact .lst (.inl (.inl h1)) (rep_dps l xs c h2)
  | .tup l, v, c, ⟨a, xs, e, h1, h2⟩ => by subst e; exact .tup h1 (rep_dps l xs c h2)
  | .scr l, v, c, ⟨a, e, h1⟩ => by subst e; exact .lst h1 (dpAll_ints l)
  | .dic _ _, _, c, _ => by cases c
  | .exc _, _, c, _ => by cases c
  | .fn _, _, c, _ => by cases c
theorem rep_dps {G : Gx} {H : Hp} : ∀ (l : List D) (xs : List V), cmDs l = true → RepL G H l xs → DpAll G.K H xs (toPs l)
  | [], xs, _, h => by cases h; exact .nil
  | d :: ds, xs, c, ⟨v, vs, e, h1, h2⟩ => by
    subst e
    rw [show cmDs (d :: ds) = (cmD d && cmDs ds) by simp [cmDs], Bool.and_eq_true] at c
    exact .cons (rep_dp d v c.1 h1) (rep_dps ds vs c.2 h2)
end
def dEq (d e : D) : R Bool := if shD d = true ∧ shD e = true then .ok (eqD d e) else .bad
def dNe (d e : D) : R Bool := if shD d = true ∧ shD e = true then .ok (!eqD d e) else .bad
section
variable {ι : Type} {X : ι → Cx} {G : Gx} {E : XK} {N : List Str} {k : Nat} {m : Bool}
theorem shD_1 {d : D} (h : shD d = true) : cmD d = true := (Bool.and_eq_true_iff.mp h).1
theorem shD_2 {d : D} (h : shD d = true) : SeqAt.shaped (toP d) = true := (Bool.and_eq_true_iff.mp h).2
theorem ne_eq' : NoErr dEq := fun d e c h => by unfold dEq at h; split at h <;> cases h
theorem ne_ne' : NoErr dNe := fun d e c h => by unfold dNe at h; split at h <;> cases h
theorem cm_eq (C : CxOk X G N k E) : CmM X G (compareOp .Eq) dEq := by
  refine ⟨_, fun i => (by have q := op_eqD (X := X i) (by have := C.units i; omega); rw [C.eK i] at q; exact q), fun H x y d e Q rx ry hq ⟨c, hc⟩ => ?_⟩
  unfold dEq at hc hq
  split at hc
  · rename_i hs
    exact ⟨toP d, toP e, rep_dp d x (shD_1 hs.1) rx, rep_dp e y (shD_1 hs.2) ry, shD_2 hs.1, shD_2 hs.2, hq _ (by rw [if_pos hs]; rfl)⟩
  · cases hc
theorem cm_ne (C : CxOk X G N k E) : CmM X G (compareOp .NotEq) dNe := by
  refine ⟨_, fun i => (by have q := op_neD (X := X i) (by have := C.units i; omega); rw [C.eK i] at q; exact q), fun H x y d e Q rx ry hq ⟨c, hc⟩ => ?_⟩
  unfold dNe at hc hq
  split at hc
  · rename_i hs
    exact ⟨toP d, toP e, rep_dp d x (shD_1 hs.1) rx, rep_dp e y (shD_1 hs.2) ry, shD_2 hs.1, shD_2 hs.2, hq _ (by rw [if_pos hs]; rfl)⟩
  · cases hc
@[simp] def dLt : D → D → R Bool
  | .int i, .int j => .ok (decide (i < j))
  | _, _ => .bad
@[simp] def dLe : D → D → R Bool
  | .int i, .int j => .ok (decide (i ≤ j))
  | _, _ => .bad
@[simp] def dGt : D → D → R Bool
  | .int i, .int j => .ok (decide (j < i))
  | _, _ => .bad
@[simp] def dGe : D → D → R Bool
  | .int i, .int j => .ok (decide (j ≤ i))
  | _, _ => .bad
theorem ne_lt' : NoErr dLt := fun d e c h => by cases d <;> cases e <;> cases h
theorem ne_le' : NoErr dLe := fun d e c h => by cases d <;> cases e <;> cases h
theorem ne_gt' : NoErr dGt := fun d e c h => by cases d <;> cases e <;> cases h
theorem ne_ge' : NoErr dGe := fun d e c h => by cases d <;> cases e <;> cases h
theorem cm_lt : CmM X G (compareOp .Lt) dLt := by
  refine ⟨_, fun i => op_lt, fun H x y d e Q rx ry hq ⟨c, hc⟩ => ?_⟩
  cases d <;> cases e <;> first | cases hc; done | skip
  cases rx; cases ry
  exact ⟨_, _, rfl, rfl, hq _ rfl⟩
theorem cm_le : CmM X G (compareOp .LtE) dLe := by
  refine ⟨_, fun i => op_le, fun H x y d e Q rx ry hq ⟨c, hc⟩ => ?_⟩
  cases d <;> cases e <;> first | cases hc; done | skip
  cases rx; cases ry
  exact ⟨_, _, rfl, rfl, hq _ rfl⟩
theorem cm_gt : CmM X G (compareOp .Gt) dGt := by
  refine ⟨_, fun i => op_gt, fun H x y d e Q rx ry hq ⟨c, hc⟩ => ?_⟩
  cases d <;> cases e <;> first | cases hc; done | skip
  cases rx; cases ry
  exact ⟨_, _, rfl, rfl, hq _ rfl⟩
theorem cm_ge : CmM X G (compareOp .GtE) dGe := by
  refine ⟨_, fun i => op_ge, fun H x y d e Q rx ry hq ⟨c, hc⟩ => ?_⟩
  cases d <;> cases e <;> first | cases hc; done | skip
  cases rx; cases ry
  exact ⟨_, _, rfl, rfl, hq _ rfl⟩
/-- is None -/
def isN : D → Bool
  | .non => true
  | _ => false
def dIsN (d e : D) : R Bool := match e with
  | .non => .ok (isN d)
  | _ => .bad
def dNotN (d e : D) : R Bool := match e with
  | .non => .ok (!isN d)
  | _ => .bad
theorem ne_isN' : NoErr dIsN := fun d e c h => by cases e <;> cases h
theorem ne_notN' : NoErr dNotN := fun d e c h => by cases e <;> cases h
theorem rep_non {H : Hp} {d : D} {x : V} (h : Rep G H d x) : decide (x = V.non) = isN d := by
  cases d with
  | non => cases h; rfl
  | bl _ => cases h; rfl
  | int _ => cases h; rfl
  | str _ => cases h; rfl
  | lst _ => obtain ⟨_, _, rfl, _⟩ := h; rfl
  | tup _ => obtain ⟨_, _, rfl, _⟩ := h; rfl
  | scr _ => obtain ⟨_, rfl, _⟩ := h; rfl
  | dic _ _ => obtain ⟨_, _, rfl, _⟩ := h; rfl
  | exc _ => obtain ⟨_, rfl, _⟩ := h; rfl
  | fn _ => obtain ⟨_, rfl, _⟩ := h; rfl
theorem cm_isN : CmM X G (compareOp .Is) dIsN := by
  refine ⟨_, fun i => op_isN, fun H x y d e Q rx ry hq ⟨c, hc⟩ => ?_⟩
  cases e <;> first | cases hc; done | skip
  cases ry
  exact ⟨rfl, hq _ (by rw [rep_non rx]; rfl)⟩
theorem cm_notN : CmM X G (compareOp .IsNot) dNotN := by
  refine ⟨_, fun i => op_notN, fun H x y d e Q rx ry hq ⟨c, hc⟩ => ?_⟩
  cases e <;> first | cases hc; done | skip
  cases ry
  exact ⟨rfl, hq _ (by rw [rep_non rx]; rfl)⟩
/-! ### in -/
def flD : D → Bool
  | .non => true
  | .bl _ => true
  | .int _ => true
  | .str _ => true
  | _ => false
def inL (x : D) (l : List D) : Bool := l.any fun y => eqD y x
def dIn (x y : D) : R Bool := match y with
  | .str s => (match x with
    | .str [c] => .ok (decide (c ∈ s))
    | _ => .bad)
  | .lst l => if flD x = true ∧ l.all flD = true then .ok (inL x l) else .bad
  | .tup l => if flD x = true ∧ l.all flD = true then .ok (inL x l) else .bad
  | _ => .bad
def dNotIn (x y : D) : R Bool := (dIn x y).bind fun c => .ok (!c)
theorem ne_in' : NoErr dIn := fun d e c h => by
  unfold dIn at h
  split at h <;> first | cases h; done | (split at h <;> cases h)
theorem ne_notIn' : NoErr dNotIn := fun d e c h => by
  unfold dNotIn at h
  cases q : dIn d e with
  | ok c => rw [q] at h; cases h
  | err c => exact absurd q (ne_in' d e c)
  | bad => rw [q] at h; cases h
theorem fl_flat {H : Hp} {d : D} {x : V} (f : flD d = true) (h : Rep G H d x) : flatV x = true := by
  cases d <;> first | cases f; done | (cases h; rfl)
theorem fl_eq {H : Hp} {d e : D} {x y : V} (fd : flD d = true) (fe : flD e = true) (h : Rep G H d x) (h' : Rep G H e y) : eqV x y = eqD d e := by
  cases d <;> (first | cases fd; done | skip) <;> cases e <;> (first | cases fe; done | skip) <;> cases h <;> cases h' <;> first | rfl | (unfold eqD toP eqV PyData.eqv; rfl)
theorem fls_flat {H : Hp} : ∀ {l : List D} {xs : List V}, l.all flD = true → RepL G H l xs → xs.all flatV = true
  | [], _, _, h => by cases h; rfl
  | d :: ds, _, f, ⟨v, vs, e, h1, h2⟩ => by
    subst e
    rw [List.all_cons, Bool.and_eq_true] at f ⊢
    exact ⟨fl_flat f.1 h1, fls_flat f.2 h2⟩
theorem fls_in {H : Hp} {d : D} {x : V} (fd : flD d = true) (h : Rep G H d x) : ∀ {l : List D} {xs : List V}, l.all flD = true → RepL G H l xs → inV x xs = inL d l
  | [], _, _, h => by cases h; rfl
  | d :: ds, _, f, ⟨v, vs, e, h1, h2⟩ => by
    subst e
    rw [List.all_cons, Bool.and_eq_true] at f
    have q := fls_in fd h f.2 h2
    unfold inV inL at q ⊢
    rw [List.any_cons, List.any_cons, fl_eq f.1 fd h1 h, q]
theorem in_cases {H : Hp} {x y : V} {d e : D} {c : Bool} (rx : Rep G H d x) (ry : Rep G H e y) (hc : dIn d e = .ok c) :
    (∃ (a : Char) (s : List Char), x = .str ⟨#[a.toNat]⟩ ∧ y = .str (mkS s) ∧ c = decide (a.toNat ∈ (mkS s).cps.toList)) ∨
      ∃ p xs, y = .ref p ∧ (SqL G.K H p xs ∨ SqT G.K H p xs) ∧ flatV x = true ∧ xs.all flatV = true ∧ c = inV x xs := by
  unfold dIn at hc
  split at hc
  · split at hc
    · cases rx; cases ry; cases hc
      refine .inl ⟨_, _, rfl, rfl, ?_⟩
      rename_i a
      show decide (_ ∈ _) = decide (_ ∈ List.map Char.toNat _)
      refine decide_eq_decide.mpr ⟨fun h => List.mem_map_of_mem h, fun h => ?_⟩
      obtain ⟨b, hb, e⟩ := List.mem_map.mp h
      have e2 := Char.toNat_inj.mp e
      rw [← e2]; exact hb
    · cases hc
  · split at hc
    · rename_i hf
      cases hc
      obtain ⟨a, xs, rfl, h1, h2⟩ := ry
      exact .inr ⟨a, xs, rfl, .inl (.inl (.inl h1)), fl_flat hf.1 rx, fls_flat hf.2 h2, (fls_in hf.1 rx hf.2 h2).symm⟩
    · cases hc
  · split at hc
    · rename_i hf
      cases hc
      obtain ⟨a, xs, rfl, h1, h2⟩ := ry
      exact .inr ⟨a, xs, rfl, .inr h1, fl_flat hf.1 rx, fls_flat hf.2 h2, (fls_in hf.1 rx hf.2 h2).symm⟩
    · cases hc
  · cases hc
theorem cm_in (C : CxOk X G N k E) : CmM X G (compareOp .In) dIn := by
  refine ⟨_, fun i => op_in_sign.or (by have q := op_in_seq (X := X i); rw [C.eK i] at q; exact q), fun H x y d e Q rx ry hq ⟨c, hc⟩ => ?_⟩
  have q := hq c hc
  rcases in_cases rx ry hc with ⟨a, s, rfl, rfl, rfl⟩ | ⟨p, xs, rfl, h1, h2, h3, rfl⟩
  · exact .inl ⟨_, _, rfl, rfl, q⟩
  · exact .inr ⟨p, xs, rfl, h1, h2, h3, q⟩
theorem cm_notIn (C : CxOk X G N k E) : CmM X G (compareOp .NotIn) dNotIn := by
  refine ⟨_, fun i => op_notIn_sign.or (by have q := op_notIn_seq (X := X i); rw [C.eK i] at q; exact q), fun H x y d e Q rx ry hq ⟨c, hc⟩ => ?_⟩
  unfold dNotIn at hc hq
  cases hd : dIn d e with
  | err _ => rw [hd] at hc; cases hc
  | bad => rw [hd] at hc; cases hc
  | ok c' =>
    have q := hq (!c') (by rw [hd]; rfl)
    rcases in_cases rx ry hd with ⟨a, s, rfl, rfl, rfl⟩ | ⟨p, xs, rfl, h1, h2, h3, rfl⟩
    · exact .inl ⟨_, _, rfl, rfl, q⟩
    · exact .inr ⟨p, xs, rfl, h1, h2, h3, q⟩
end
end G81

/-! Containers, what is walked, comprehensions, calls. -/
namespace G81
open PySem PySem.Spec PyProof.Rows L2

/-- a list that stands in the heap, its items kept at F; all else kept at F -/
def RepC (G : Gx) (F H : Hp) (d : D) (v : V) : Prop := match d with
  | .lst l => ∃ a xs, v = .ref a ∧ H a = some (.lst xs) ∧ RepL G F l xs
  | d => Rep G F d v
theorem rep_c {G : Gx} {F H : Hp} {d : D} {v : V} (i : Same F H) (h : Rep G F d v) : RepC G F H d v := by
  cases d with
  | lst l => obtain ⟨a, xs, e, h1, h2⟩ := h; exact ⟨a, xs, e, i _ _ h1, h2⟩
  | _ => exact h
theorem RepC.rep {G : Gx} {F H : Hp} {d : D} {v : V} (i : Same F H) (h : RepC G F H d v) : Rep G H d v := by
  cases d with
  | lst l => obtain ⟨a, xs, e, h1, h2⟩ := h; exact ⟨a, xs, e, h1, h2.mono i⟩
  | non => exact Rep.mono i _ _ h
  | bl _ => exact Rep.mono i _ _ h
  | int _ => exact Rep.mono i _ _ h
  | str _ => exact Rep.mono i _ _ h
  | tup _ => exact Rep.mono i _ _ h
  | scr _ => exact Rep.mono i _ _ h
  | dic _ _ => exact Rep.mono i _ _ h
  | exc _ => exact Rep.mono i _ _ h
  | fn _ => exact Rep.mono i _ _ h
theorem RepC.mono {G : Gx} {F F' H H' : Hp} {d : D} {v : V} (eF : Same F F') (eH : Same H H') (h : RepC G F H d v) : RepC G F' H' d v := by
  cases d with
  | lst l => obtain ⟨a, xs, e, h1, h2⟩ := h; exact ⟨a, xs, e, eH _ _ h1, h2.mono eF⟩
  | non => exact Rep.mono eF _ _ h
  | bl _ => exact Rep.mono eF _ _ h
  | int _ => exact Rep.mono eF _ _ h
  | str _ => exact Rep.mono eF _ _ h
  | tup _ => exact Rep.mono eF _ _ h
  | scr _ => exact Rep.mono eF _ _ h
  | dic _ _ => exact Rep.mono eF _ _ h
  | exc _ => exact Rep.mono eF _ _ h
  | fn _ => exact Rep.mono eF _ _ h
abbrev relC (G : Gx) (m : Bool) : Hp → Hp → Hp → D → V → Prop := fun _ F' H' d v => RepC G (wd m F' H') H' d v
theorem antiC {G : Gx} {m : Bool} : Anti (relC G m) := fun _ _ _ _ _ _ _ h => h
section
variable {ι : Type} (X : ι → Cx) (G : Gx) (E : XK)
structure EC (m : Bool) (O : List Nat) (e : Expr) (f : Ev → R D) : Prop where
  ex : ∃ t : TE, (∀ i, PE (X i) e t) ∧ ∀ F0 H0 F σ H env Q, Rel G F0 H0 O F σ H env → PostG G E (relC G m) F H (f env) Q → t σ H Q
end
section
variable {ι : Type} {X : ι → Cx} {G : Gx} {E : XK} {N : List Str} {k : Nat} {m m' : Bool} {O : List Nat} {a b : Expr} {fa fb : Ev → R D} {pos : Pos}
theorem EM.ec (h : EM X G E m O a fa) : EC X G E m O a fa := by
  obtain ⟨t, ht, rd⟩ := h.ex
  refine ⟨t, ht, fun F0 H0 F σ H env Q r hq => rd F0 H0 F σ H env Q r ?_⟩
  cases hf : fa env with
  | ok d => rw [hf] at hq; exact fun v F' H' e rv => hq v F' H' e (rep_c (wd_sub e.i) rv)
  | err c => rw [hf] at hq; exact hq
  | bad => rw [hf] at hq; exact hq
theorem EC.em (h : EC X G E m O a fa) : EM X G E false O a fa := by
  obtain ⟨t, ht, rd⟩ := h.ex
  refine ⟨t, ht, fun F0 H0 F σ H env Q r hq => rd F0 H0 F σ H env Q r ?_⟩
  cases hf : fa env with
  | ok d => rw [hf] at hq; exact fun v F' H' e rv => hq v F' H' e (rv.rep (wd_sub e.i))
  | err c => rw [hf] at hq; exact hq
  | bad => rw [hf] at hq; exact hq
/-- a name that may hold a list of its own -/
theorem ec_var (C : CxOk X G N k E) (i : Nat) {x : Str} {pos : Pos} (hN : N[i]? = some x) (hv : ∀ j, Vis (X j).env.scope x) (hd : (x == ("__debug__" : Str)) = false := by decide)
    (hcd : (x == ("__classdict__" : Str)) = false := by decide) : EC X G E true O (.Name x pos) (eVar i) := by
  refine ⟨tVar i, fun j => pe_var (by rw [C.eN j]; exact hN) (hv j) hd hcd, fun F0 H0 F σ H env Q r h => ?_⟩
  unfold eVar at h
  cases he : Ev.get env i with
  | none => rw [he] at h; exact h.elim
  | some d =>
    rw [he] at h
    obtain ⟨v, e1, h1, h2⟩ := r.val i d he
    refine ⟨v, e1, h v F H (.refl r.ext.i) ?_⟩
    by_cases hi : i ∈ O
    · obtain ⟨a, xs, l, rfl, rfl, _, _, q1, q2⟩ := h2 hi
      exact ⟨a, xs, rfl, q1, q2⟩
    · exact rep_c r.ext.i (h1 hi)

/-! ### a[b] -/
def dIx (d e : D) : R D := match e with
  | .int i => (match d with
    | .lst l => (match atI l i with | some x => .ok x | none => .bad)
    | .tup l => (match atI l i with | some x => .ok x | none => .bad)
    | .scr l => (match atI l i with | some x => .ok (.int x) | none => .bad)
    | .str s => if s.length ≤ line then (match atI s i with | some c => .ok (.str [c]) | none => .bad) else .bad
    | _ => .bad)
  | _ => .bad
theorem RepL.at {F : Hp} {l : List D} {xs : List V} {i : Int} {d : D} (h : RepL G F l xs) (e : atI l i = some d) : ∃ v, atI xs i = some v ∧ Rep G F d v := by
  unfold atI at e ⊢
  rw [h.len]
  cases q : ixN l.length i with
  | none => rw [q] at e; cases e
  | some j => rw [q] at e; exact h.get e
theorem atI_map {α β : Type} (f : α → β) (l : List α) (i : Int) : atI (l.map f) i = (atI l i).map f := by
  unfold atI
  rw [List.length_map]
  cases ixN l.length i with
  | none => rfl
  | some j => simp
theorem em_ix (C : CxOk X G N k E) (ha : EC X G E m O a fa) (hb : EM X G E false O b fb) (hs : PlainIx b) : EM X G E m O (.Subscript a b pos) (eOp dIx fa fb) := by
  obtain ⟨ta, pa, ra⟩ := ha.ex
  obtain ⟨tb, pb, rb⟩ := hb.ex
  refine ⟨tOp (rIx G.K) ta tb, fun i => pe_ix (by have q := ix_seq (X := X i); rw [C.eK i] at q; exact q) (pa i) (pb i) hs, fun F0 H0 F σ H env Q rl h => ?_⟩
  refine ra F0 H0 F σ H env _ rl (PostG.bind antiM h fun x vx F1 H1 e1 r1 h1 => ?_)
  refine rb F0 H0 F1 σ H1 env _ (rl.grow e1) (PostG.bind antiM h1 fun y vy F2 H2 e2 r2 h2 => ?_)
  have r1' := RepC.mono (wd_mono e2) e2.h r1
  cases y <;> first | exact h2.elim | skip
  cases r2
  cases x with
  | lst l =>
    obtain ⟨p, xs, rfl, q1, q2⟩ := r1'
    simp only [dIx] at h2
    split at h2
    · rename_i d hd
      obtain ⟨v, hv, rv⟩ := q2.at hd
      exact .inl ⟨p, xs, _, v, rfl, rfl, .inl (.inl q1), hv, h2 v F2 H2 (.refl e2.i) rv⟩
    · exact h2.elim
  | tup l =>
    obtain ⟨p, xs, rfl, q1, q2⟩ := r1'
    simp only [dIx] at h2
    split at h2
    · rename_i d hd
      obtain ⟨v, hv, rv⟩ := q2.at hd
      exact .inr (.inl ⟨p, xs, _, v, rfl, rfl, same_sqT (wd_sub e2.i) q1, hv, h2 v F2 H2 (.refl e2.i) rv⟩)
    · exact h2.elim
  | scr l =>
    obtain ⟨p, rfl, q1⟩ := r1'
    simp only [dIx] at h2
    split at h2
    · rename_i d hd
      exact .inl ⟨p, _, _, .int d, rfl, rfl, (wd_sub e2.i).seq q1, by rw [atI_map, hd]; rfl, h2 _ F2 H2 (.refl e2.i) rfl⟩
    · exact h2.elim
  | str s =>
    cases r1'
    simp only [dIx] at h2
    split at h2
    · rename_i hz
      split at h2
      · rename_i c hc
        exact .inr (.inr ⟨_, _, c.toNat, rfl, rfl, by rw [str_len, line_eq]; exact hz, by show atI (List.map Char.toNat _) _ = _; rw [atI_map, hc]; rfl, h2 _ F2 H2 (.refl e2.i) rfl⟩)
      · exact h2.elim
    · exact h2.elim
  | _ => exact h2.elim

/-! ### slices -/
def cutL {α : Type} (xs : List α) (lo hi : Option Int) : List α := (xs.drop (HT.sIx xs.length 0 lo)).take (HT.sIx xs.length xs.length hi - HT.sIx xs.length 0 lo)
@[simp] def dSl (d : D) (lo hi : Option Int) : R D := match d with
  | .lst l => .ok (.lst (cutL l lo hi))
  | .tup l => .ok (.tup (cutL l lo hi))
  | .str s => if s.length ≤ line then .ok (.str (cutL s lo hi)) else .bad
  | _ => .bad
abbrev relP : Hp → Hp → Hp → Option Int → Option Int → Prop := fun _ _ _ a b => a = b
section
variable (X G E)
structure OM (O : List Nat) (e : Option Expr) (f : Ev → R (Option Int)) : Prop where
  ex : ∃ t : TO, (∀ i, PO (X i) e t) ∧ ∀ F0 H0 F σ H env Q, Rel G F0 H0 O F σ H env → PostG G E relP F H (f env) Q → t σ H Q
end
@[simp] def oNone : Ev → R (Option Int) := fun _ => .ok none
@[simp] def oSome (f : Ev → R D) : Ev → R (Option Int) := fun env => (f env).bind fun d => match d with
  | .int i => .ok (some i)
  | _ => .bad
theorem antiP : Anti relP := fun _ _ _ _ _ _ _ h => h
theorem om_none : OM X G E O none oNone := ⟨_, fun _ => po_none, fun F0 H0 F σ H env Q rl h => h none F H (.refl rl.ext.i) rfl⟩
theorem om_some (ha : EM X G E false O a fa) : OM X G E O (some a) (oSome fa) := by
  obtain ⟨ta, pa, ra⟩ := ha.ex
  refine ⟨tPart ta, fun i => po_some (pa i), fun F0 H0 F σ H env Q rl h => ra F0 H0 F σ H env _ rl (PostG.bind antiP h fun x v F1 H1 e1 r1 h1 => ?_)⟩
  cases x <;> first | exact h1.elim | skip
  cases r1
  exact ⟨_, rfl, h1 _ F1 H1 (.refl e1.i) rfl⟩
theorem SlR.or' {Y : Cx} {r r' : V → Option Int → Option Int → Hp → VK → Prop} (h : L2.SlR Y r) (h' : L2.SlR Y r') : L2.SlR Y (fun x lo hi H Q => r x lo hi H Q ∨ r' x lo hi H Q) := by
  intro pins s σ H x v vl vu lo hi sl Q I rx hs pl pu q
  rcases q with q | q
  · exact h pins s σ H x v vl vu lo hi sl Q I rx hs pl pu q
  · exact h' pins s σ H x v vl vu lo hi sl Q I rx hs pl pu q
theorem RepL.cut {F : Hp} {l : List D} {xs : List V} (h : RepL G F l xs) (lo hi : Option Int) : RepL G F (cutL l lo hi) (cutV xs lo hi) := by
  unfold cutL cutV
  rw [h.len]
  exact (h.drop _).take _
@[simp] def eSl (f : Ev → R D) (lo hi : Ev → R (Option Int)) : Ev → R D := fun env => (f env).bind fun d => (lo env).bind fun l => (hi env).bind fun h => dSl d l h
variable {lo hi : Option Expr} {fl fh : Ev → R (Option Int)} {p2 : Pos}
theorem em_sl (C : CxOk X G N k E) (ha : EC X G E m O a fa) (hl : OM X G E O lo fl) (hh : OM X G E O hi fh) : EM X G E m O (.Subscript a (.Slice lo hi none p2) pos) (eSl fa fl fh) := by
  obtain ⟨ta, pa, ra⟩ := ha.ex
  obtain ⟨tl, pl, rl'⟩ := hl.ex
  obtain ⟨th, ph, rh⟩ := hh.ex
  refine ⟨tSl _ ta tl th, fun i => pe_slice (SlR.or' (SlR.or' (by have q := sl_list (X := X i); rw [C.eK i] at q; exact q) (by have q := sl_tupA (X := X i); rw [C.eK i] at q; exact q)) sl_str) (pa i) (pl i) (ph i), fun F0 H0 F σ H env Q rl h => ?_⟩
  refine ra F0 H0 F σ H env _ rl (PostG.bind antiM h fun x vx F1 H1 e1 r1 h1 => ?_)
  refine rl' F0 H0 F1 σ H1 env _ (rl.grow e1) (PostG.bind antiM h1 fun y vy F2 H2 e2 r2 h2 => ?_)
  refine rh F0 H0 F2 σ H2 env _ ((rl.grow e1).grow e2) (PostG.bind antiM h2 fun z vz F3 H3 e3 r3 h3 => ?_)
  subst r2 r3
  have r1' := RepC.mono (wd_mono (e2.trans e3)) (e2.trans e3).h r1
  cases x with
  | lst l =>
    obtain ⟨p, xs, rfl, q1, q2⟩ := r1'
    refine .inl (.inl ⟨p, xs, rfl, .inl (.inl q1), fun q hq => post_new h3 e3.i hq ?_⟩)
    exact ⟨q, _, rfl, upd_same, (q2.cut _ _).mono (same_upd' ((wd_sub e3.i).free hq))⟩
  | tup l =>
    obtain ⟨p, xs, rfl, q1, q2⟩ := r1'
    refine .inl (.inr ⟨p, xs, rfl, same_sqT (wd_sub e3.i) q1, fun hw => ?_, fun _ q hq => post_new h3 e3.i hq ?_⟩)
    · refine h3 _ F3 H3 (.refl e3.i) ⟨p, xs, rfl, q1, ?_⟩
      have e : cutL l y z = l := by
        unfold cutL
        rw [← q2.len, hw.1, hw.2, q2.len]
        simp
      rw [e]; exact q2
    · exact ⟨q, _, rfl, .inl (.inl upd_same), (q2.cut _ _).mono (same_upd' ((wd_sub e3.i).free hq))⟩
  | str s =>
    cases r1'
    simp only [dSl] at h3
    split at h3
    · rename_i hz
      refine .inr ⟨_, rfl, by rw [str_len, line_eq]; exact hz, h3 _ F3 H3 (.refl e3.i) ?_⟩
      show V.str _ = V.str _
      unfold cutS cutL
      rw [str_len]
      simp [mkS]
    · exact h3.elim
  | _ => exact h3.elim
/-- a slice of a list, as a list of one's own -/
@[simp] def asL : R D → R D
  | .ok (.lst l) => .ok (.lst l)
  | .ok _ => .bad
  | .err c => .err c
  | .bad => .bad
@[simp] def eAsL (f : Ev → R D) : Ev → R D := fun env => asL (f env)
def isL : D → Bool
  | .lst _ => true
  | _ => false
theorem asL_bind {α : Type} (r : R α) (f : α → R D) : asL (r.bind f) = r.bind fun x => asL (f x) := by cases r <;> rfl
theorem eo_sl (C : CxOk X G N k E) (ha : EC X G E true O a fa) (hl : OM X G E O lo fl) (hh : OM X G E O hi fh) : EO X G E O (.Subscript a (.Slice lo hi none p2) pos) (eAsL (eSl fa fl fh)) := by
  obtain ⟨ta, pa, ra⟩ := ha.ex
  obtain ⟨tl, pl, rl'⟩ := hl.ex
  obtain ⟨th, ph, rh⟩ := hh.ex
  refine ⟨tSl _ ta tl th, fun i => pe_slice (by have q := sl_list (X := X i); rw [C.eK i] at q; exact q) (pa i) (pl i) (ph i), fun F0 H0 F σ H env Q rl h => ?_⟩
  unfold eAsL eSl at h
  rw [asL_bind] at h
  refine ra F0 H0 F σ H env _ rl (PostG.bind antiO h fun x vx F1 H1 e1 r1 h1 => ?_)
  rw [asL_bind] at h1
  refine rl' F0 H0 F1 σ H1 env _ (rl.grow e1) (PostG.bind antiO h1 fun y vy F2 H2 e2 r2 h2 => ?_)
  rw [asL_bind] at h2
  refine rh F0 H0 F2 σ H2 env _ ((rl.grow e1).grow e2) (PostG.bind antiO h2 fun z vz F3 H3 e3 r3 h3 => ?_)
  subst r2 r3
  have r1' := RepC.mono (wd_mono (e2.trans e3)) (e2.trans e3).h r1
  cases x with
  | lst l =>
    obtain ⟨p, xs, rfl, q1, q2⟩ := r1'
    exact ⟨p, xs, rfl, .inl (.inl q1), fun q hq => h3 _ F3 _ (.own e3.i hq) ⟨q, _, _, rfl, rfl, hq, e3.i.free hq, upd_same, q2.cut _ _⟩⟩
  | tup l => exact h3.elim
  | str s => simp only [dSl] at h3; split at h3 <;> exact h3.elim
  | _ => exact h3.elim
/-- xs[::-1] -/
def eRevL (f : Ev → R D) : Ev → R D := fun env => (f env).bind fun d => match d with
  | .lst l => .ok (.lst l.reverse)
  | _ => .bad
theorem eo_revL {k' : Nat} {p1 p2 p3 : Pos} (C : CxOk X G N k E) (ha : EC X G E true O a fa) : EO X G E O (.Subscript a (.Slice none none (some (.UnaryOp .USub (.Constant (.int 1) k' p1) p2)) p3) pos) (eRevL fa) := by
  obtain ⟨ta, pa, ra⟩ := ha.ex
  refine ⟨tRevL G.K ta, fun i => (by have q := pe_revL (X := X i) (k := k') (p1 := p1) (p2 := p2) (p3 := p3) (pos := pos) (pa i); rw [C.eK i] at q; exact q), fun F0 H0 F σ H env Q rl h => ?_⟩
  refine ra F0 H0 F σ H env _ rl (PostG.bind antiO h fun x vx F1 H1 e1 r1 h1 => ?_)
  cases x <;> first | exact h1.elim | skip
  obtain ⟨p, xs, rfl, q1, q2⟩ := r1
  exact ⟨p, xs, rfl, .inl (.inl q1), fun q hq => h1 _ F1 _ (.own e1.i hq) ⟨q, _, _, rfl, rfl, hq, e1.i.free hq, upd_same, q2.reverse⟩⟩

/-! ### lists of one's own by + and * -/
theorem eo_add (ha : EM X G E true O a fa) (hb : EM X G E true O b fb) : EO X G E O (.BinOp a .Add b pos) (eAsL (eOp dAdd fa fb)) := by
  obtain ⟨ta, pa, ra⟩ := ha.ex
  obtain ⟨tb, pb, rb⟩ := hb.ex
  refine ⟨tOp rCat ta tb, fun i => pe_op op_cat (pa i) (pb i), fun F0 H0 F σ H env Q rl h => ?_⟩
  unfold eAsL eOp at h
  rw [asL_bind] at h
  refine ra F0 H0 F σ H env _ rl (PostG.bind antiO h fun x vx F1 H1 e1 r1 h1 => ?_)
  rw [asL_bind] at h1
  refine rb F0 H0 F1 σ H1 env _ (rl.grow e1) (PostG.bind antiO h1 fun y vy F2 H2 e2 r2 h2 => ?_)
  have r1' := Rep.mono e2.f _ _ r1
  cases x <;> (first | exact h2.elim | skip) <;> cases y <;> (first | exact h2.elim | skip)
  · simp only [dAdd] at h2; split at h2 <;> exact h2.elim
  · obtain ⟨p, xs, rfl, q1, q2⟩ := r1'
    obtain ⟨p', ys, rfl, q3, q4⟩ := r2
    simp only [dAdd] at h2
    split at h2
    · rename_i hz
      exact ⟨p, p', xs, ys, rfl, rfl, e2.i _ _ q1, e2.i _ _ q3, by rw [q2.len, q4.len, line_eq]; exact hz, fun q hq => h2 _ F2 _ (.own e2.i hq) ⟨q, _, _, rfl, rfl, hq, e2.i.free hq, upd_same, q2.app q4⟩⟩
    · exact h2.elim
  · simp only [dAdd] at h2; split at h2 <;> exact h2.elim
theorem eo_mul (ha : EM X G E true O a fa) (hb : EM X G E true O b fb) : EO X G E O (.BinOp a .Mult b pos) (eAsL (eOp dMul fa fb)) := by
  obtain ⟨ta, pa, ra⟩ := ha.ex
  obtain ⟨tb, pb, rb⟩ := hb.ex
  refine ⟨tOp rRep ta tb, fun i => pe_op op_rep (pa i) (pb i), fun F0 H0 F σ H env Q rl h => ?_⟩
  unfold eAsL eOp at h
  rw [asL_bind] at h
  refine ra F0 H0 F σ H env _ rl (PostG.bind antiO h fun x vx F1 H1 e1 r1 h1 => ?_)
  rw [asL_bind] at h1
  refine rb F0 H0 F1 σ H1 env _ (rl.grow e1) (PostG.bind antiO h1 fun y vy F2 H2 e2 r2 h2 => ?_)
  have r1' := Rep.mono e2.f _ _ r1
  cases x <;> (first | exact h2.elim | skip) <;> cases y <;> (first | exact h2.elim | skip)
  · simp only [dMul] at h2; split at h2 <;> exact h2.elim
  · simp only [dMul] at h2; split at h2 <;> exact h2.elim
  · obtain ⟨p, xs, rfl, q1, q2⟩ := r1'
    cases r2
    simp only [dMul] at h2
    split at h2
    · rename_i hz
      obtain ⟨z1, z2, z3⟩ := hz
      exact ⟨p, _, xs, rfl, rfl, e2.i _ _ q1, by omega, by omega, by rw [q2.len, sizeLine_eq]; omega, fun q hq => h2 _ F2 _ (.own e2.i hq) ⟨q, _, _, rfl, rfl, hq, e2.i.free hq, upd_same, q2.rep _⟩⟩
    · exact h2.elim
  · simp only [dMul] at h2; split at h2 <;> exact h2.elim
end
end G81

/-! What is walked, comprehensions, calls. -/
namespace G81
open PySem PySem.Spec PyProof.Rows L2

/-- the iterator J yields the data ds; b: it leans on the kept part alone -/
def WalkOk (G : Gx) (b m : Bool) (J : It) (F1 H1 : Hp) (ds : List D) : Prop :=
  ∀ (i : Nat) (F H : Hp), Same F1 F → Same F H → (b = false → Same H1 H) →
    (∀ d, ds[i]? = some d → J.go i H ∧ ∀ x H', J.yld i H x H' → ∃ F', Ext F H F' H' ∧ Rep G (wd m F' H') d x) ∧ (ds.length ≤ i → J.stop i H)
abbrev relW (G : Gx) (b m : Bool) : Hp → Hp → Hp → List D → It → Prop := fun _ F' H' ds J => WalkOk G b m J F' H' ds
theorem antiW {G : Gx} {b m : Bool} : Anti (relW G b m) := fun _ _ _ _ _ _ _ h => h
section
variable {ι : Type} (X : ι → Cx) (G : Gx) (E : XK)
structure IM (b m : Bool) (O : List Nat) (tg e : Expr) (f : Ev → R (List D)) : Prop where
  ex : ∃ t : TI, (∀ i, PI (X i) tg e t) ∧ ∀ F0 H0 F σ H env (Q : It → Hp → Prop), Rel G F0 H0 O F σ H env → PostG G E (relW G b m) F H (f env) Q → t σ H Q
end
/-- the items of a list, a tuple, a text -/
@[simp] def dIt : D → R (List D)
  | .lst l => .ok l
  | .tup l => .ok l
  | .scr l => .ok (l.map D.int)
  | .str s => .ok (s.map fun c => D.str [c])
  | _ => .bad
@[simp] def iSeq (f : Ev → R D) : Ev → R (List D) := fun env => (f env).bind dIt
section
variable {ι : Type} {X : ι → Cx} {G : Gx} {E : XK} {N : List Str} {k : Nat} {m m' : Bool} {O : List Nat} {a b e : Expr} {fa fb f : Ev → R D} {pos : Pos} {tg : Expr}
theorem PI_or {Y : Cx} {t u : TI} (h : PI Y tg e t) (h' : PI Y tg e u) : PI Y tg e (fun σ H R => t σ H R ∨ u σ H R) :=
  ⟨fun pins s σ H R I q => q.elim (h.run pins s σ H R I) (h'.run pins s σ H R I)⟩
theorem walk_lst {b m : Bool} {F1 H1 : Hp} {p : Addr} {xs : List V} {l : List D} (h : b = true → F1 p = some (.lst xs)) (h' : H1 p = some (.lst xs)) (hl : RepL G (wd m F1 H1) l xs) (hb : b = true → m = true) : WalkOk G b m (Itl G.K p) F1 H1 l := by
  intro i F H s1 s2 s3
  have hp : H p = some (.lst xs) := by
    cases b with
    | true => exact s2 _ _ (s1 _ _ (h rfl))
    | false => exact s3 rfl _ _ h'
  have hq : SqL G.K H p xs := .inl (.inl hp)
  have hl' : RepL G (wd m F H) l xs := by
    cases m with
    | true => exact hl.mono s1
    | false =>
      cases b with
      | true => cases hb rfl
      | false => exact hl.mono (s3 rfl)
  refine ⟨fun d hd => ?_, fun hi => ⟨xs, hq, by rw [hl.len]; exact hi⟩⟩
  obtain ⟨v, hv, rv⟩ := hl'.get hd
  refine ⟨⟨xs, v, hq, hv⟩, fun x H' hy => ?_⟩
  obtain ⟨rfl, hx⟩ := hy
  have e := hx xs hq
  rw [hv] at e; cases e
  exact ⟨F, .refl s2, rv⟩
theorem walk_tup {b m : Bool} {F1 H1 : Hp} {p : Addr} {xs : List V} {l : List D} (h : SqT G.K (wd m F1 H1) p xs) (hl : RepL G (wd m F1 H1) l xs) (hb : b = true → m = true) : WalkOk G b m (Itt G.K p) F1 H1 l := by
  intro i F H s1 s2 s3
  have sm : Same (wd m F1 H1) (wd m F H) := by
    cases m with
    | true => exact s1
    | false =>
      cases b with
      | true => cases hb rfl
      | false => exact s3 rfl
  have hq : SqT G.K H p xs := same_sqT (sm.trans (wd_sub s2)) h
  refine ⟨fun d hd => ?_, fun hi => ⟨xs, hq, by rw [hl.len]; exact hi⟩⟩
  obtain ⟨v, hv, rv⟩ := (hl.mono sm).get hd
  refine ⟨⟨xs, v, hq, hv⟩, fun x H' hy => ?_⟩
  obtain ⟨rfl, hx⟩ := hy
  have e := hx xs hq
  rw [hv] at e; cases e
  exact ⟨F, .refl s2, rv⟩
theorem walk_scr {b m : Bool} {F1 H1 : Hp} {p : Addr} {l : List Int} (h : SqL G.K (wd m F1 H1) p (l.map V.int)) (hb : b = true → m = true) : WalkOk G b m (Itl G.K p) F1 H1 (l.map D.int) := by
  intro i F H s1 s2 s3
  have sm : Same (wd m F1 H1) (wd m F H) := by
    cases m with
    | true => exact s1
    | false =>
      cases b with
      | true => cases hb rfl
      | false => exact s3 rfl
  have hq : SqL G.K H p (l.map V.int) := (sm.trans (wd_sub s2)).seq h
  refine ⟨fun d hd => ?_, fun hi => ⟨_, hq, by simpa using hi⟩⟩
  rw [List.getElem?_map] at hd
  cases q : l[i]? with
  | none => rw [q] at hd; cases hd
  | some n =>
    rw [q] at hd; cases hd
    have hv : (l.map V.int)[i]? = some (.int n) := by rw [List.getElem?_map, q]; rfl
    refine ⟨⟨_, _, hq, hv⟩, fun x H' hy => ?_⟩
    obtain ⟨rfl, hx⟩ := hy
    have e := hx _ hq
    rw [hv] at e; cases e
    exact ⟨F, .refl s2, rfl⟩
theorem walk_str {b m : Bool} {F1 H1 : Hp} {s : List Char} : WalkOk G b m (Its (mkS s)) F1 H1 (s.map fun c => D.str [c]) := by
  intro i F H s1 s2 s3
  refine ⟨fun d hd => ?_, fun hi => ?_⟩
  · rw [List.getElem?_map] at hd
    cases q : s[i]? with
    | none => rw [q] at hd; cases hd
    | some n =>
      rw [q] at hd; cases hd
      refine ⟨?_, fun x H' hy => ?_⟩
      · show i < (s.map Char.toNat).toArray.size
        rw [List.size_toArray, List.length_map]
        exact (List.getElem?_eq_some_iff.mp q).1
      · obtain ⟨rfl, c, hc, rfl⟩ := hy
        have hc : (s.map Char.toNat).toArray[i]? = some c := hc
        rw [List.getElem?_toArray, List.getElem?_map, q] at hc
        cases hc
        exact ⟨F, .refl s2, rfl⟩
  · show (s.map Char.toNat).toArray.size ≤ i
    rw [List.size_toArray, List.length_map]
    simpa using hi
def iAny (K : PySem.W.Frag) (te : TE) : TI := fun σ H R => (iList K te σ H R ∨ iTup K te σ H R) ∨ iStr te σ H R
theorem pi_any (C : CxOk X G N k E) {te : TE} (h : ∀ i, PE (X i) e te) (i : ι) : PI (X i) tg e (iAny G.K te) := by
  have p1 := pi_list (tg := tg) (h i)
  have p2 := pi_tup (tg := tg) (h i)
  rw [C.eK i] at p1 p2
  exact PI_or (PI_or p1 p2) (pi_str (h i))
theorem post_ok {α β : Type} {rel : Hp → Hp → Hp → α → β → Prop} {F H : Hp} {r : R α} {a : α} {Q : β → Hp → Prop} (h : r = .ok a) (q : ∀ b F' H', Ext F H F' H' → rel H F' H' a b → Q b H') : PostG G E rel F H r Q := by
  rw [h]; exact q
theorem post_err {α β γ δ : Type} {rel : Hp → Hp → Hp → α → β → Prop} {rel2 : Hp → Hp → Hp → γ → δ → Prop} {F H : Hp} {r : R α} {g : α → R γ} {Q : β → Hp → Prop} {Q2 : δ → Hp → Prop} {c : Str} (hr : r = .err c) (h : PostG G E rel2 F H (r.bind g) Q2) : PostG G E rel F H r Q := by
  rw [hr] at h ⊢; exact h
/-- over a borrowed thing: in a comprehension alone -/
theorem im_bor (C : CxOk X G N k E) (ha : EC X G E m O e f) : IM X G E false m O tg e (iSeq f) := by
  obtain ⟨te, pe, rd⟩ := ha.ex
  refine ⟨iAny G.K te, pi_any C pe, fun F0 H0 F σ H env Q rl h => ?_⟩
  unfold iSeq at h
  cases hf : f env with
  | bad => rw [hf] at h; exact h.elim
  | err c => exact .inl (.inl (rd F0 H0 F σ H env _ rl (post_err hf h)))
  | ok d =>
    rw [hf] at h
    cases d with
    | lst l => exact .inl (.inl (rd F0 H0 F σ H env _ rl (post_ok hf fun v F1 H1 e1 ⟨p, xs, ev, q1, q2⟩ => ⟨p, ev, ⟨xs, .inl (.inl q1)⟩, h _ F1 H1 e1 (walk_lst (fun z => by cases z) q1 q2 (fun z => by cases z))⟩)))
    | tup l => exact .inl (.inr (rd F0 H0 F σ H env _ rl (post_ok hf fun v F1 H1 e1 ⟨p, xs, ev, q1, q2⟩ => ⟨p, ev, ⟨xs, same_sqT (wd_sub e1.i) q1⟩, h _ F1 H1 e1 (walk_tup q1 q2 (fun z => by cases z))⟩)))
    | scr l => exact .inl (.inl (rd F0 H0 F σ H env _ rl (post_ok hf fun v F1 H1 e1 ⟨p, ev, q1⟩ => ⟨p, ev, ⟨_, (wd_sub e1.i).seq q1⟩, h _ F1 H1 e1 (walk_scr q1 (fun z => by cases z))⟩)))
    | str s => exact .inr (rd F0 H0 F σ H env _ rl (post_ok hf fun v F1 H1 e1 ev => ⟨_, ev, h _ F1 H1 e1 walk_str⟩))
    | _ => exact h.elim
/-- over a kept thing -/
theorem im_frz (C : CxOk X G N k E) (ha : EM X G E true O e f) : IM X G E true true O tg e (iSeq f) := by
  obtain ⟨te, pe, rd⟩ := ha.ex
  refine ⟨iAny G.K te, pi_any C pe, fun F0 H0 F σ H env Q rl h => ?_⟩
  unfold iSeq at h
  cases hf : f env with
  | bad => rw [hf] at h; exact h.elim
  | err c => exact .inl (.inl (rd F0 H0 F σ H env _ rl (post_err hf h)))
  | ok d =>
    rw [hf] at h
    cases d with
    | lst l => exact .inl (.inl (rd F0 H0 F σ H env _ rl (post_ok hf fun v F1 H1 e1 ⟨p, xs, ev, q1, q2⟩ => ⟨p, ev, ⟨xs, .inl (.inl (e1.i _ _ q1))⟩, h _ F1 H1 e1 (walk_lst (fun _ => q1) (e1.i _ _ q1) q2 (fun z => z))⟩)))
    | tup l => exact .inl (.inr (rd F0 H0 F σ H env _ rl (post_ok hf fun v F1 H1 e1 ⟨p, xs, ev, q1, q2⟩ => ⟨p, ev, ⟨xs, same_sqT e1.i q1⟩, h _ F1 H1 e1 (walk_tup q1 q2 (fun z => z))⟩)))
    | scr l => exact .inl (.inl (rd F0 H0 F σ H env _ rl (post_ok hf fun v F1 H1 e1 ⟨p, ev, q1⟩ => ⟨p, ev, ⟨_, e1.i.seq q1⟩, h _ F1 H1 e1 (walk_scr q1 (fun z => z))⟩)))
    | str s => exact .inr (rd F0 H0 F σ H env _ rl (post_ok hf fun v F1 H1 e1 ev => ⟨_, ev, h _ F1 H1 e1 walk_str⟩))
    | _ => exact h.elim

/-! ### range -/
def rgD (lo : Int) (n : Nat) : List D := (List.range n).map fun i => D.int (lo + (i : Nat))
def big62 (i : Int) : Prop := -(2 ^ 62) ≤ i ∧ i < 2 ^ 62
noncomputable instance (i : Int) : Decidable (big62 i) := Classical.propDecidable _
@[simp] noncomputable def iRg1 (g : Ev → R (List D)) : Ev → R (List D) := fun env => (g env).bind fun ds => match ds with
  | [.int j] => if big62 j then .ok (rgD 0 j.toNat) else .bad
  | _ => .bad
@[simp] noncomputable def iRg2 (g : Ev → R (List D)) : Ev → R (List D) := fun env => (g env).bind fun ds => match ds with
  | [.int i, .int j] => if big62 i ∧ big62 j then .ok (rgD i (j - i).toNat) else .bad
  | _ => .bad
theorem walk_rg {b m : Bool} {F1 H1 : Hp} {lo : Int} {n : Nat} : WalkOk G b m (Itr lo n) F1 H1 (rgD lo n) := by
  intro i F H s1 s2 s3
  unfold rgD
  refine ⟨fun d hd => ?_, fun hi => ?_⟩
  · rw [List.getElem?_map] at hd
    cases q : (List.range n)[i]? with
    | none => rw [q] at hd; cases hd
    | some j =>
      rw [q] at hd; cases hd
      obtain ⟨hlt, e⟩ := List.getElem?_eq_some_iff.mp q
      rw [List.length_range] at hlt
      rw [List.getElem_range] at e
      subst e
      refine ⟨hlt, fun x H' hy => ?_⟩
      obtain ⟨rfl, rfl⟩ := hy
      exact ⟨F, .refl s2, rfl⟩
  · show n ≤ i
    simpa using hi
variable {p : Pos} {g : Ev → R (List D)} {es : List Expr}
theorem repL1 {F : Hp} {d : D} {vs : List V} (h : RepL G F [d] vs) : ∃ v, vs = [v] ∧ Rep G F d v := by
  obtain ⟨v, ws, rfl, h1, h2⟩ := h
  cases h2
  exact ⟨v, rfl, h1⟩
theorem repL2 {F : Hp} {d e : D} {vs : List V} (h : RepL G F [d, e] vs) : ∃ v w, vs = [v, w] ∧ Rep G F d v ∧ Rep G F e w := by
  obtain ⟨v, ws, rfl, h1, h2⟩ := h
  obtain ⟨w, rfl, h3⟩ := repL1 h2
  exact ⟨v, w, rfl, h1, h3⟩
theorem im_rg1 {b' : Bool} (C : CxOk X G N k E) (hg : ∀ i, Gl (X i) "range") (hm : G.mg "range" = none) (ha : AM X G E false O [a] g) (hs : ∀ i, starEach [a] (X i).env = [(false, eval a (X i).env)] := by intro _; rfl) : IM X G E b' m O tg (.Call (.Name "range" p) [a] [] pos) (iRg1 g) := by
  obtain ⟨t, ht, rd⟩ := ha.ex
  refine ⟨iRng1 t, fun i => pi_range1 (hg i) (by rw [C.emg i]; exact hm) (ht i) (hs i), fun F0 H0 F σ H env Q rl h => rd F0 H0 F σ H env _ rl (PostG.bind antiW h fun ds vs F1 H1 e1 r1 h1 => ?_)⟩
  split at h1
  · rename_i j
    obtain ⟨v, rfl, rv⟩ := repL1 r1
    cases rv
    split at h1
    · rename_i hz
      exact ⟨j, rfl, hz.1, hz.2, h1 _ F1 H1 (.refl e1.i) walk_rg⟩
    · exact h1.elim
  · exact h1.elim
theorem im_rg2 {b' : Bool} (C : CxOk X G N k E) (hg : ∀ i, Gl (X i) "range") (hm : G.mg "range" = none) (ha : AM X G E false O [a, b] g) (hs : ∀ i, starEach [a, b] (X i).env = [(false, eval a (X i).env), (false, eval b (X i).env)] := by intro _; rfl)
    (hs2 : ∀ i, starEach [b] (X i).env = [(false, eval b (X i).env)] := by intro _; rfl) : IM X G E b' m O tg (.Call (.Name "range" p) [a, b] [] pos) (iRg2 g) := by
  obtain ⟨t, ht, rd⟩ := ha.ex
  refine ⟨iRng2 t, fun i => pi_range2 (hg i) (by rw [C.emg i]; exact hm) (ht i) (hs i) (hs2 i), fun F0 H0 F σ H env Q rl h => rd F0 H0 F σ H env _ rl (PostG.bind antiW h fun ds vs F1 H1 e1 r1 h1 => ?_)⟩
  split at h1
  · rename_i i j
    obtain ⟨v, w, rfl, rv, rw'⟩ := repL2 r1
    cases rv; cases rw'
    split at h1
    · rename_i hz
      exact ⟨i, j, rfl, ⟨hz.1.1, hz.1.2, hz.2.1, hz.2.2⟩, h1 _ F1 H1 (.refl e1.i) walk_rg⟩
    · exact h1.elim
  · exact h1.elim

/-! ### enumerate, zip -/
def enD : Nat → List D → List D
  | _, [] => []
  | n, d :: ds => .tup [.int n, d] :: enD (n + 1) ds
theorem enD_len : ∀ (n : Nat) (l : List D), (enD n l).length = l.length
  | _, [] => rfl
  | n, d :: ds => by simp [enD, enD_len (n + 1) ds]
theorem enD_get : ∀ (n : Nat) (l : List D) (i : Nat) (d : D), (enD n l)[i]? = some d → ∃ x, l[i]? = some x ∧ d = .tup [.int ((n + i : Nat) : Int), x]
  | _, [], _, _, h => by simp [enD] at h
  | n, x :: r, 0, d, h => by simp [enD] at h; exact ⟨x, rfl, h.symm⟩
  | n, x :: r, i + 1, d, h => by
    obtain ⟨y, h1, h2⟩ := enD_get (n + 1) r i d (by simpa [enD] using h)
    exact ⟨y, by simpa using h1, by rw [h2, show n + 1 + i = n + (i + 1) by omega]⟩
def dLst : D → R (List D)
  | .lst l => .ok l
  | _ => .bad
@[simp] def iEn (g : Ev → R (List D)) : Ev → R (List D) := fun env => (g env).bind fun ds => match ds with
  | [.lst l] => .ok (enD 0 l)
  | _ => .bad
theorem walk_en {b m : Bool} {F1 H1 : Hp} {p : Addr} {xs : List V} {l : List D} (h : b = true → F1 p = some (.lst xs)) (h' : H1 p = some (.lst xs)) (hl : RepL G (wd m F1 H1) l xs) (hb : b = true → m = true) : WalkOk G b m (Ite G.K p) F1 H1 (enD 0 l) := by
  intro i F H s1 s2 s3
  have hp : H p = some (.lst xs) := by
    cases b with
    | true => exact s2 _ _ (s1 _ _ (h rfl))
    | false => exact s3 rfl _ _ h'
  have hq : SqL G.K H p xs := .inl (.inl hp)
  have hl' : RepL G (wd m F H) l xs := by
    cases m with
    | true => exact hl.mono s1
    | false =>
      cases b with
      | true => cases hb rfl
      | false => exact hl.mono (s3 rfl)
  refine ⟨fun d hd => ?_, fun hi => ⟨xs, hq, by rw [hl.len, ← enD_len 0]; exact hi⟩⟩
  obtain ⟨y, hy, rfl⟩ := enD_get 0 l i d hd
  obtain ⟨v, hv, rv⟩ := hl'.get hy
  refine ⟨⟨xs, v, hq, hv⟩, fun x H' hy => ?_⟩
  obtain ⟨T, x, rfl, nT, rfl, hx⟩ := hy
  have e := hx xs hq
  rw [hv] at e; cases e
  refine ⟨upd F T (.tup [.int (i : Nat), v]), .new s2 nT, ?_⟩
  rw [wd_upd]
  refine ⟨T, _, rfl, .inl (.inl upd_same), ⟨_, _, rfl, ?_, ⟨_, _, rfl, rv.mono (same_upd' ((wd_sub s2).free nT)) _ _, rfl⟩⟩⟩
  show V.int _ = V.int _
  rw [Nat.zero_add]
variable {elts : List Expr} {kk : Nat} {tpos : Pos}
theorem im_en {b' : Bool} (C : CxOk X G N k E) (hb : b' = true → m = true) (hg : ∀ i, Gl (X i) "enumerate") (hm : G.mg "enumerate" = none) (ha : AM X G E m O [a] g) (hs : ∀ i, starEach [a] (X i).env = [(false, eval a (X i).env)] := by intro _; rfl) :
    IM X G E b' m O (.Tuple elts kk tpos) (.Call (.Name "enumerate" p) [a] [] pos) (iEn g) := by
  obtain ⟨t, ht, rd⟩ := ha.ex
  refine ⟨iEnum G.K t, fun i => by have q := pi_enum (elts := elts) (kk := kk) (tpos := tpos) (p := p) (pos := pos) (hg i) (by rw [C.emg i]; exact hm) (ht i) (hs i); rw [C.eK i] at q; exact q, fun F0 H0 F σ H env Q rl h => rd F0 H0 F σ H env _ rl (PostG.bind antiW h fun ds vs F1 H1 e1 r1 h1 => ?_)⟩
  split at h1
  · obtain ⟨v, rfl, rv⟩ := repL1 r1
    obtain ⟨q, xs, rfl, q1, q2⟩ := rv
    have q1' := wd_sub e1.i _ _ q1
    refine ⟨q, xs, rfl, .inl (.inl q1'), h1 _ F1 H1 (.refl e1.i) (walk_en (fun z => ?_) q1' q2 hb)⟩
    have := hb z
    subst this
    exact q1
  · exact h1.elim
def zipD : List D → List D → List D
  | x :: xs, y :: ys => .tup [x, y] :: zipD xs ys
  | _, _ => []
theorem zipD_len : ∀ (l r : List D), (zipD l r).length = min l.length r.length
  | [], r => by simp [zipD]
  | _ :: _, [] => by simp [zipD]
  | _ :: l, _ :: r => by simp [zipD, zipD_len l r]
theorem zipD_get : ∀ (l r : List D) (i : Nat) (d : D), (zipD l r)[i]? = some d → ∃ x y, l[i]? = some x ∧ r[i]? = some y ∧ d = .tup [x, y]
  | [], r, _, _, h => by simp [zipD] at h
  | _ :: _, [], _, _, h => by simp [zipD] at h
  | x :: l, y :: r, 0, d, h => by simp [zipD] at h; exact ⟨x, y, rfl, rfl, h.symm⟩
  | x :: l, y :: r, i + 1, d, h => by
    obtain ⟨u, v, h1, h2, h3⟩ := zipD_get l r i d (by simpa [zipD] using h)
    exact ⟨u, v, by simpa using h1, by simpa using h2, h3⟩
@[simp] def iZp (g : Ev → R (List D)) : Ev → R (List D) := fun env => (g env).bind fun ds => match ds with
  | [.lst l, .lst r] => .ok (zipD l r)
  | _ => .bad
theorem walk_zp {b m : Bool} {F1 H1 : Hp} {p q : Addr} {xs ys : List V} {l r : List D} (h : b = true → F1 p = some (.lst xs)) (h' : H1 p = some (.lst xs)) (hl : RepL G (wd m F1 H1) l xs)
    (k : b = true → F1 q = some (.lst ys)) (k' : H1 q = some (.lst ys)) (kl : RepL G (wd m F1 H1) r ys) (hb : b = true → m = true) : WalkOk G b m (Itz G.K p q) F1 H1 (zipD l r) := by
  intro i F H s1 s2 s3
  have hp : H p = some (.lst xs) := by
    cases b with
    | true => exact s2 _ _ (s1 _ _ (h rfl))
    | false => exact s3 rfl _ _ h'
  have kp : H q = some (.lst ys) := by
    cases b with
    | true => exact s2 _ _ (s1 _ _ (k rfl))
    | false => exact s3 rfl _ _ k'
  have sm : Same (wd m F1 H1) (wd m F H) := by
    cases m with
    | true => exact s1
    | false =>
      cases b with
      | true => cases hb rfl
      | false => exact s3 rfl
  have hq : SqL G.K H p xs := .inl (.inl hp)
  have kq : SqL G.K H q ys := .inl (.inl kp)
  refine ⟨fun d hd => ?_, fun hi => ⟨xs, ys, hq, kq, by rw [hl.len, kl.len]; rw [zipD_len] at hi; omega⟩⟩
  obtain ⟨u, v, hu, hv, rfl⟩ := zipD_get l r i d hd
  obtain ⟨vu, h1, r1⟩ := (hl.mono sm).get hu
  obtain ⟨vv, h2, r2⟩ := (kl.mono sm).get hv
  refine ⟨⟨xs, ys, vu, vv, hq, kq, h1, h2⟩, fun x H' hy => ?_⟩
  obtain ⟨T, x1, x2, rfl, nT, rfl, f1, f2⟩ := hy
  have e := f1 xs hq
  rw [h1] at e; cases e
  have e := f2 ys kq
  rw [h2] at e; cases e
  refine ⟨upd F T (.tup [vu, vv]), .new s2 nT, ?_⟩
  rw [wd_upd]
  have st := same_upd' (o := HO.tup [vu, vv]) ((wd_sub (m := m) s2).free nT)
  exact ⟨T, _, rfl, .inl (.inl upd_same), ⟨_, _, rfl, r1.mono st _ _, ⟨_, _, rfl, r2.mono st _ _, rfl⟩⟩⟩
theorem im_zp {b' : Bool} (C : CxOk X G N k E) (hb : b' = true → m = true) (hg : ∀ i, Gl (X i) "zip") (hm : G.mg "zip" = none) (ha : AM X G E m O [a, b] g) (hs : ∀ i, starEach [a, b] (X i).env = (false, eval a (X i).env) :: starEach [b] (X i).env := by intro _; rfl)
    (hpl : ∀ i, (backTo pos (starEach [b] (X i).env)).any (·.1) = false := by intro _; rfl) : IM X G E b' m O (.Tuple elts kk tpos) (.Call (.Name "zip" p) [a, b] [] pos) (iZp g) := by
  obtain ⟨t, ht, rd⟩ := ha.ex
  refine ⟨iZip G.K t, fun i => by have q := pi_zip (elts := elts) (kk := kk) (tpos := tpos) (p := p) (hg i) (by rw [C.emg i]; exact hm) (ht i) (hs i) (hpl i); rw [C.eK i] at q; exact q, fun F0 H0 F σ H env Q rl h => rd F0 H0 F σ H env _ rl (PostG.bind antiW h fun ds vs F1 H1 e1 r1 h1 => ?_)⟩
  split at h1
  · obtain ⟨v, w, rfl, rv, rw'⟩ := repL2 r1
    obtain ⟨q, xs, rfl, q1, q2⟩ := rv
    obtain ⟨q', ys, rfl, q3, q4⟩ := rw'
    have q1' := wd_sub e1.i _ _ q1
    have q3' := wd_sub e1.i _ _ q3
    refine ⟨q, q', xs, ys, rfl, .inl (.inl q1'), .inl (.inl q3'), h1 _ F1 H1 (.refl e1.i) (walk_zp (fun z => ?_) q1' q2 (fun z => ?_) q3' q4 hb)⟩
    · have := hb z; subst this; exact q1
    · have := hb z; subst this; exact q3
  · exact h1.elim
end

/-! ### targets -/
@[simp] def tsN (i : Nat) : D → Ev → R Ev := fun d env => .ok (Ev.set env i d)
@[simp] def setAll : List Nat → List D → Ev → R Ev
  | [], [], env => .ok env
  | i :: is, d :: ds, env => setAll is ds (Ev.set env i d)
  | _, _, _ => .bad
@[simp] def tsT (is : List Nat) : D → Ev → R Ev := fun d env => match d with
  | .tup l => setAll is l env
  | _ => .bad
section
variable {ι : Type} (X : ι → Cx) (G : Gx)
/-- a target, its slots among vs -/
structure GM (O : List Nat) (vs : List Nat) (tg : Expr) (f : D → Ev → R Ev) : Prop where
  ex : ∃ t : TG, (∀ i, PG (X i) tg t) ∧ ∀ F0 H0 F σ H env d v Q, Rel G F0 H0 O F σ H env → Rep G F d v →
    (∃ env', f d env = .ok env' ∧ ∀ σ', Rel G F0 H0 O F σ' H env' → (σ'.length = σ.length ∧ ∀ j, j ∉ vs → σ'[j]? = σ[j]?) → Q σ' H) → t v σ H Q
structure GsM (O : List Nat) (vs : List Nat) (tgs : List Expr) (is : List Nat) : Prop where
  ex : ∃ t : TGs, (∀ i, PGs (X i) tgs t) ∧ ∀ F0 H0 F σ H env ds vs' Q, Rel G F0 H0 O F σ H env → RepL G F ds vs' →
    (∃ env', setAll is ds env = .ok env' ∧ ∀ σ', Rel G F0 H0 O F σ' H env' → (σ'.length = σ.length ∧ ∀ j, j ∉ vs → σ'[j]? = σ[j]?) → Q σ' H) → t vs' σ H Q
end
section
variable {ι : Type} {X : ι → Cx} {G : Gx} {E : XK} {N : List Str} {k : Nat} {O : List Nat} {vs : List Nat} {pos : Pos}
theorem gm_name (C : CxOk X G N k E) (i : Nat) {x : Str} (hN : N[i]? = some x) (hO : decide (i ∈ O) = false) (hv : decide (i ∈ vs) = true) (hl : ∀ j, Loc (X j).env.scope x)
    (hf : ∀ j, (X j).fn x = true ∨ (X j).env.scope.names.lookup x = some .local := by intro _; first | exact .inl rfl | exact .inr rfl) : GM X G O vs (.Name x pos) (tsN i) := by
  refine ⟨gName i, fun j => pg_name (by rw [C.eN j]; exact C.nd) (by rw [C.eN j]; exact hN) (hl j) (hf j), fun F0 H0 F σ H env d v Q rl rv ⟨env', e, q⟩ => ?_⟩
  cases e
  have hO' : i ∉ O := of_decide_eq_false hO
  have hv' : i ∈ vs := of_decide_eq_true hv
  refine q _ (rl.put rv (fun j hj => ⟨hj, fun z => hO' (z ▸ hj)⟩) (fun j hj _ => hj)) ⟨by rw [List.length_set], fun j hj => ?_⟩
  exact List.getElem?_set_ne (fun (z : i = j) => hj (z ▸ hv'))
theorem gs_nil : GsM X G O vs [] [] := by
  refine ⟨gNil, fun j => pgs_nil, fun F0 H0 F σ H env ds vs' Q rl rv ⟨env', e, q⟩ => ?_⟩
  cases ds with
  | nil => cases rv; cases e; exact ⟨rfl, q σ rl ⟨rfl, fun _ _ => rfl⟩⟩
  | cons d ds => cases e
theorem gs_cons {e : Expr} {es : List Expr} {i : Nat} {is : List Nat} (h1 : GM X G O vs e (tsN i)) (h2 : GsM X G O vs es is)
    (hs : ∀ j, (assignEach (e :: es) (X j).env).map (·.2) = assign e (X j).env :: (assignEach es (X j).env).map (·.2) := by intro _; rfl) : GsM X G O vs (e :: es) (i :: is) := by
  obtain ⟨t, ht, rd⟩ := h1.ex
  obtain ⟨u, hu, rd2⟩ := h2.ex
  refine ⟨gCons t u, fun j => pgs_cons (ht j) (hu j) (hs j), fun F0 H0 F σ H env ds vs' Q rl rv ⟨env', e, q⟩ => ?_⟩
  cases ds with
  | nil => cases e
  | cons d ds =>
    obtain ⟨v, ws, rfl, r1, r2⟩ := rv
    refine ⟨v, ws, rfl, rd F0 H0 F σ H env d v _ rl r1 ⟨_, rfl, fun σ1 rl1 a1 => ?_⟩⟩
    exact rd2 F0 H0 F σ1 H _ ds ws Q rl1 r2 ⟨env', e, fun σ2 rl2 a2 => q σ2 rl2 ⟨a2.1.trans a1.1, fun j hj => (a2.2 j hj).trans (a1.2 j hj)⟩⟩
theorem setAll_len : ∀ {is : List Nat} {ds : List D} {env env' : Ev}, setAll is ds env = .ok env' → ds.length = is.length
  | [], [], _, _, _ => rfl
  | _ :: _, _ :: _, _, _, h => by simp only [setAll] at h; simp [setAll_len h]
  | [], _ :: _, _, _, h => by cases h
  | _ :: _, [], _, _, h => by cases h
theorem gm_tup [Calm G] (C : CxOk X G N k E) {es : List Expr} {k' : Nat} {is : List Nat} (h : GsM X G O vs es is) (hn : ∀ j, (assignEach es (X j).env).length = is.length := by intro _; rfl) (hst : ∀ j, (assignEach es (X j).env).findIdx? (·.1) = none := by intro _; rfl) :
    GM X G O vs (.Tuple es k' pos) (tsT is) := by
  obtain ⟨t, ht, rd⟩ := h.ex
  refine ⟨gTup G.K is.length t, fun j => by have q := pg_tup (pos := pos) (k := k') (C.calm j) (ht j) (hn j) (hst j); rw [C.eK j] at q; exact q, fun F0 H0 F σ H env d v Q rl rv ⟨env', e, q⟩ => ?_⟩
  cases d <;> first | cases e; done | skip
  obtain ⟨p, xs, rfl, q1, q2⟩ := rv
  exact ⟨p, xs, rfl, same_sqT rl.ext.i q1, by rw [q2.len]; exact setAll_len e, rd F0 H0 F σ H env _ xs Q rl q2 ⟨env', e, q⟩⟩
end
end G81

/-! Comprehensions, calls. -/
namespace G81
open PySem PySem.Spec PyProof.Rows L2

/-! ### comprehensions -/
structure BI where
  s : Shared
  H : Hp
  C : Addr
  cl : List (Str × Addr)
  fp : List Addr
abbrev blkF {ι : Type} (X : ι → Cx) (scope : Scope) : ι × BI → Cx := fun p => (X p.1).blk p.2.s p.2.H scope (compEnvC scope p.2.cl p.2.C (X p.1).env) p.2.fp
theorem CxOk.blk {ι : Type} {X : ι → Cx} {G : Gx} {N : List Str} {k : Nat} {E : XK} [Calm G] (C : CxOk X G N k E) (scope : Scope) : CxOk (blkF X scope) G N k E0 :=
  ⟨C.nd, fun p => C.eP p.1, fun p => C.ew p.1, fun p => C.eK p.1, fun p => C.emg p.1, fun p => C.ebase p.1, fun p => C.eN p.1, fun h p => C.calm' h p.1, fun h p => C.room' h p.1, fun p => C.units p.1, fun _ a c h => absurd h (Calm.e a c), fun p => passL⟩
section
variable {ι : Type} (X : ι → Cx) (G : Gx) (E : XK)
structure TsM (O : List Nat) (es : List Expr) (f : Ev → R Bool) : Prop where
  ex : ∃ t : TT, (∀ i, PTs (X i) es t) ∧ ∀ F0 H0 F σ H env Q, Rel G F0 H0 O F σ H env → PostB G E F H (f env) Q → t σ H Q
end
@[simp] def tTrue : Ev → R Bool := fun _ => .ok true
def noErr {α : Type} : R α → R α
  | .ok a => .ok a
  | _ => .bad
@[simp] theorem noErr_ok {α : Type} (a : α) : noErr (.ok a) = .ok a := rfl
@[simp] def lcF (tgt : D → Ev → R Ev) (tst : Ev → R Bool) (elt : Ev → R D) (env : Ev) : List D → R (List D)
  | [] => .ok []
  | d :: ds => (tgt d env).bind fun e1 => (tst e1).bind fun c => if c = true then (elt e1).bind fun y => (lcF tgt tst elt env ds).bind fun ys => .ok (y :: ys) else lcF tgt tst elt env ds
@[simp] def wipeE (env : Ev) : List Nat → Ev
  | [] => env
  | v :: vs => Ev.del (wipeE env vs) v
@[simp] def eLc (own : List Nat) (g : Ev → R (List D)) (tgt : D → Ev → R Ev) (tst : Ev → R Bool) (elt : Ev → R D) : Ev → R D := fun env =>
  (g env).bind fun ds => if ds.length ≤ line then (noErr (lcF tgt tst elt (wipeE env own) ds)).bind fun ys => .ok (.lst ys) else .bad
theorem wipeE_len (env : Ev) : ∀ vs : List Nat, (wipeE env vs).length = env.length
  | [] => rfl
  | v :: vs => by rw [wipeE, Ev.del_len, wipeE_len env vs]
theorem wipeE_get (env : Ev) (i : Nat) : ∀ vs : List Nat, Ev.get (wipeE env vs) i = if i ∈ vs then none else Ev.get env i
  | [] => by simp [wipeE]
  | v :: vs => by
    rw [wipeE, Ev.get_del, wipeE_get env i vs]
    by_cases h : i = v
    · simp [h]
    · simp [h]
theorem wipe_len (σ : L2.St) : ∀ vs : List Nat, (wipe σ vs).length = σ.length
  | [] => rfl
  | v :: vs => by rw [wipe, List.length_set, wipe_len σ vs]
theorem wipe_get (σ : L2.St) (i : Nat) : ∀ vs : List Nat, (wipe σ vs)[i]? = if i ∈ vs ∧ i < σ.length then some none else σ[i]?
  | [] => by simp [wipe]
  | v :: vs => by
    rw [wipe, List.getElem?_set, wipe_len, wipe_get σ i vs]
    by_cases h : v = i
    · subst h
      by_cases hl : v < σ.length
      · simp [hl]
      · simp [hl, List.getElem?_eq_none (Nat.le_of_not_lt hl)]
    · simp [h, Ne.symm h]
theorem wipe_eq {σ τ : L2.St} {vs : List Nat} (hl : τ.length = σ.length) (h : ∀ j, j ∉ vs → τ[j]? = (wipe σ vs)[j]?) : wipe τ vs = wipe σ vs := by
  apply List.ext_getElem?
  intro i
  rw [wipe_get, wipe_get, hl]
  by_cases hi : i ∈ vs
  · by_cases hlt : i < σ.length
    · simp [hi, hlt]
    · simp [hi, hlt, List.getElem?_eq_none (Nat.le_of_not_lt hlt), List.getElem?_eq_none (show τ.length ≤ i by omega)]
  · have := h i hi
    rw [wipe_get] at this
    simp [hi] at this ⊢
    exact this
section
variable {G : Gx} {F0 H0 F H : Hp} {O O' : List Nat} {σ : L2.St} {env : Ev}
theorem Rel.wipe (r : Rel G F0 H0 O F σ H env) (vs : List Nat) (hO : ∀ j, j ∈ O' ↔ j ∈ O ∧ j ∉ vs) : Rel G F0 H0 O' F (L2.wipe σ vs) H (wipeE env vs) := by
  have g : ∀ i d, Ev.get (wipeE env vs) i = some d → i ∉ vs ∧ Ev.get env i = some d := fun i d h => by
    rw [wipeE_get] at h
    split at h
    · cases h
    · rename_i q; exact ⟨q, h⟩
  have s : ∀ i, i ∉ vs → (L2.wipe σ vs)[i]? = σ[i]? := fun i h => by rw [wipe_get]; simp [h]
  refine ⟨by rw [wipe_len, wipeE_len]; exact r.len, r.ext, fun i d h => ?_, fun i j d e a hi hj h1 h2 s1 s2 => ?_⟩
  · obtain ⟨q, h⟩ := g i d h
    obtain ⟨v, e1, h1, h2⟩ := r.val i d h
    exact ⟨v, by rw [s i q]; exact e1, fun z => h1 fun y => z ((hO i).mpr ⟨y, q⟩), fun z => h2 ((hO i).mp z).1⟩
  · obtain ⟨q1, h1⟩ := g i d h1
    obtain ⟨q2, h2⟩ := g j e h2
    rw [s i q1] at s1
    rw [s j q2] at s2
    exact r.sep i j d e a ((hO i).mp hi).1 ((hO j).mp hj).1 h1 h2 s1 s2
end
section
variable {ι : Type} {X : ι → Cx} {G : Gx} {E : XK} {N : List Str} {k : Nat} {b : Bool} {O O' : List Nat} {pos : Pos}
theorem ts_nil : TsM X G E O [] tTrue := ⟨_, fun _ => pts_nil, fun F0 H0 F σ H env Q rl h => h true F H (.refl rl.ext.i) rfl⟩
theorem ts_one {c : Expr} {f : Ev → R Bool} (h : TM X G E O c f) : TsM X G E O [c] f := let ⟨t, ht, rd⟩ := h.ex; ⟨t, fun i => pts_one (ht i), rd⟩
def lcInv (G : Gx) (F1 H1 : Hp) (D : Addr) (lc : List G81.D → R (List G81.D)) (ds all : List G81.D) (i n : Nat) (H2 : Hp) : Prop :=
  n = ds.length - i ∧ ∃ F2 acc accD rest, Ext F1 H1 F2 H2 ∧ F2 D = none ∧ H2 D = some (.lst acc) ∧ RepL G F2 accD acc ∧ lc (ds.drop i) = .ok rest ∧ all = accD ++ rest ∧ i ≤ ds.length ∧ accD.length ≤ i
/-- the reading of a comprehension -/
theorem lc_read {elt tg iter : Expr} {ifs : List Expr} {scope : Scope} {own : List Nat} {g : Ev → R (List D)} {tgt : D → Ev → R Ev} {tst : Ev → R Bool} {fe : Ev → R D} {ti : TI} {tG : TG} {tT : TT} {tE : TE}
    (hO : ∀ j, j ∈ O' ↔ j ∈ O ∧ j ∉ own)
    (hi : ∀ F0 H0 F σ H env (Q : It → Hp → Prop), Rel G F0 H0 O F σ H env → PostG G E (relW G b true) F H (g env) Q → ti σ H Q)
    (hg : ∀ F0 H0 F σ H env d v Q, Rel G F0 H0 O' F σ H env → Rep G F d v → (∃ env', tgt d env = .ok env' ∧ ∀ σ', Rel G F0 H0 O' F σ' H env' → (σ'.length = σ.length ∧ ∀ j, j ∉ own → σ'[j]? = σ[j]?) → Q σ' H) → tG v σ H Q)
    (ht : ∀ F0 H0 F σ H env Q, Rel G F0 H0 O' F σ H env → PostB G E0 F H (tst env) Q → tT σ H Q)
    (he : ∀ F0 H0 F σ H env Q, Rel G F0 H0 O' F σ H env → Post G E0 true F H (fe env) Q → tE σ H Q) :
    ∀ F0 H0 F σ H env Q, Rel G F0 H0 O F σ H env → PostO G E F H (eLc own g tgt tst fe env) Q → tLc ti tG tT tE own σ H Q := by
  intro F0 H0 F σ H env Q rl h
  refine hi F0 H0 F σ H env _ rl (PostG.bind antiO h fun ds J F1 H1 e1 r1 h1 => ?_)
  intro D hD
  split at h1
  · rename_i hz
    cases hl : lcF tgt tst fe (wipeE env own) ds with
    | err c => rw [hl] at h1; exact h1.elim
    | bad => rw [hl] at h1; exact h1.elim
    | ok all =>
      rw [hl] at h1
      have hsz : (sizeLine : Nat) = line := line_eq
      refine ⟨lcInv G F1 H1 D (lcF tgt tst fe (wipeE env own)) ds all,
        ⟨ds.length, by simp, F1, [], [], all, .own e1.i hD, e1.i.free hD, upd_same, rfl, hl, rfl, Nat.zero_le _, Nat.le_refl _⟩, ?_⟩
      rintro i n H2 ⟨rfl, F2, acc, accD, rest, e2, n2, h2, ra, hr, rfl, hi', hai⟩
      by_cases hlt : i < ds.length
      · have hd : ds[i]? = some ds[i] := List.getElem?_eq_getElem hlt
        obtain ⟨go, yl⟩ := (r1 i F2 H2 e2.f e2.i (fun _ => e2.h)).1 _ hd
        refine .inr ⟨go, lcInv G F1 H1 D (lcF tgt tst fe (wipeE env own)) ds (accD ++ rest) (i + 1) (ds.length - (i + 1)), fun H' q => ⟨_, by omega, q⟩, fun x H3 hy => ?_⟩
        obtain ⟨F3, e3, rx⟩ := yl x H3 hy
        have rlw : Rel G F0 H0 O' F3 (L2.wipe σ own) H3 (wipeE env own) := (((rl.grow e1).grow e2).grow e3).wipe own hO
        rw [List.drop_eq_getElem_cons hlt, lcF] at hr
        cases ht1 : tgt ds[i] (wipeE env own) with
        | err c => rw [ht1] at hr; cases hr
        | bad => rw [ht1] at hr; cases hr
        | ok env1 =>
          rw [ht1] at hr
          refine hg F0 H0 F3 _ H3 _ ds[i] x _ rlw rx ⟨env1, ht1, fun σ' rl1 a1 => ⟨wipe_eq (by rw [a1.1, wipe_len]) a1.2, ?_⟩⟩
          have hr : ((tst env1).bind fun c => if c = true then (fe env1).bind fun y => (lcF tgt tst fe (wipeE env own) (ds.drop (i + 1))).bind fun ys => .ok (y :: ys) else lcF tgt tst fe (wipeE env own) (ds.drop (i + 1))) = .ok rest := hr
          cases ht2 : tst env1 with
          | err c => rw [ht2] at hr; cases hr
          | bad => rw [ht2] at hr; cases hr
          | ok c =>
            rw [ht2] at hr
            have hr : (if c = true then (fe env1).bind fun y => (lcF tgt tst fe (wipeE env own) (ds.drop (i + 1))).bind fun ys => .ok (y :: ys) else lcF tgt tst fe (wipeE env own) (ds.drop (i + 1))) = .ok rest := hr
            refine ht F0 H0 F3 σ' H3 env1 _ rl1 (post_ok ht2 fun c' F4 H4 e4 ec => ?_)
            subst ec
            cases c with
            | false =>
              rw [if_neg Bool.false_ne_true] at hr ⊢
              have e34 := e3.trans e4
              refine ⟨rfl, F4, acc, accD, rest, e2.trans e34, ?_, e34.h _ _ h2, ra.mono e34.f, hr, rfl, hlt, by omega⟩
              rw [e34.n D (by rw [h2]; simp)]; exact n2
            | true =>
              rw [if_pos rfl] at hr ⊢
              cases hf : fe env1 with
              | err c => rw [hf] at hr; cases hr
              | bad => rw [hf] at hr; cases hr
              | ok y =>
                rw [hf] at hr
                have hr : ((lcF tgt tst fe (wipeE env own) (ds.drop (i + 1))).bind fun ys => .ok (y :: ys)) = .ok rest := hr
                cases hn : lcF tgt tst fe (wipeE env own) (ds.drop (i + 1)) with
                | err c => rw [hn] at hr; cases hr
                | bad => rw [hn] at hr; cases hr
                | ok ys =>
                  rw [hn] at hr
                  cases hr
                  refine he F0 H0 F4 σ' H4 env1 _ (rl1.grow e4) (post_ok hf fun vy F5 H5 e5 ry => ?_)
                  have e35 := e3.trans (e4.trans e5)
                  have hD5 : H5 D = some (.lst acc) := e35.h _ _ h2
                  have nD5 : F5 D = none := by rw [e35.n D (by rw [h2]; simp)]; exact n2
                  refine ⟨acc, hD5, by rw [ra.len, hsz]; omega, rfl, F5, acc ++ [vy], accD ++ [y], ys, ?_, nD5, upd_same, (ra.mono e35.f).app (.one ry), hn, by simp, hlt, by simp; omega⟩
                  have e15 := e2.trans e35
                  exact ⟨e15.f, fun c o ec => by rw [upd_ne (ne_of_none ec hD)]; exact e15.h _ _ ec, fun c o ec => by rw [upd_ne (ne_of_none ec nD5)]; exact e15.i _ _ ec, e15.n, e15.s⟩
      · have e : i = ds.length := by omega
        subst e
        rw [List.drop_length] at hr
        cases hr
        refine .inl ⟨(r1 _ F2 H2 e2.f e2.i (fun _ => e2.h)).2 (Nat.le_refl _), ?_⟩
        have h1' : ∀ bb F' H', Ext F1 H1 F' H' → relO G H1 F' H' (.lst (accD ++ [])) bb → Q bb H' := h1
        exact h1' (.ref D) F2 H2 e2 ⟨D, acc, accD ++ [], rfl, rfl, hD, n2, h2, by rw [List.append_nil]; exact ra⟩
  · exact h1.elim
/-- [elt for tg in iter if ..] -/
theorem eo_lc [Calm G] {elt tg iter : Expr} {ifs : List Expr} {scope : Scope} {own : List (Str × Nat)} {g : Ev → R (List D)} {tgt : D → Ev → R Ev} {tst : Ev → R Bool} {fe : Ev → R D} (C : CxOk X G N k E) (hO : ∀ j, j ∈ O' ↔ j ∈ O ∧ j ∉ own.map (·.2))
    (hi : IM X G E b true O tg iter g) (ok : ∀ i, BlkOk (X i).N (X i).env.scope scope own)
    (hg : GM (blkF X scope) G O' (own.map (·.2)) tg tgt) (ht : TsM (blkF X scope) G E0 O' ifs tst) (he : EM (blkF X scope) G E0 true O' elt fe) (hs : ∀ i x, foldedSetIterable iter (X i).env x = pure x := by intro _ _; rfl) :
    EO X G E O (.ListComp elt [⟨tg, iter, ifs, 0⟩] scope pos) (eLc (own.map (·.2)) g tgt tst fe) := by
  obtain ⟨ti, pi, ri⟩ := hi.ex
  obtain ⟨tG, pg, rg⟩ := hg.ex
  obtain ⟨tT, pt, rt⟩ := ht.ex
  obtain ⟨tE, pe, re⟩ := he.ex
  refine ⟨tLc ti tG tT tE (own.map (·.2)), fun i => pe_lc (C.calm i) (by rw [C.eN i]; exact C.nd) (pi i) (ok i) (fun s H C cl fp => pg (i, ⟨s, H, C, cl, fp⟩)) (fun s H C cl fp => pt (i, ⟨s, H, C, cl, fp⟩)) (fun s H C cl fp => pe (i, ⟨s, H, C, cl, fp⟩)) (hs i), ?_⟩
  exact lc_read (elt := elt) (tg := tg) (iter := iter) (ifs := ifs) (scope := scope) hO ri rg rt re
end

/-! ### calls of one's own functions -/
def relF (G : Gx) : Bool → Hp → Hp → Hp → D → V → Prop
  | true => relO G
  | false => relM G true
theorem antiF {G : Gx} {own : Bool} : Anti (relF G own) := by cases own; exact antiM; exact antiO
def spF (G : Gx) (own : Bool) (n : Nat) (g : List D → R D) : Sp := fun vs H Q E => ∃ F ds, Same F H ∧ vs.length = n ∧ RepL G F ds vs ∧ PostG G E (relF G own) F H (g ds) Q
structure FnM (G : Gx) (k : Nat) (x : Str) (n : Nat) (own : Bool) (g : List D → R D) : Prop where
  ex : ∃ f fd ps, FnOk G.P G.w G.K G.mg G.base (L2.CX G.P G.w) k f fd ps (spF G own n g) ∧ G.mg x = some (.ref f) ∧ PySem.W.keepIn G.K (.ref f) = true ∧ Binds G.K fd ps [] ∧ ps.length = n
@[simp] def eCall (g : List D → R D) (f : Ev → R (List D)) : Ev → R D := fun env => (f env).bind g
section
variable {ι : Type} {X : ι → Cx} {G : Gx} {E : XK} {N : List Str} {k k' n : Nat} {m own : Bool} {O O' : List Nat} {pos p : Pos} {e : Expr} {es : List Expr} {x : Str} {g : List D → R D} {fa : Ev → R (List D)}
theorem FnOk.cast {Y : Cx} {CX : CXT} {f : Addr} {fd : FuncData} {ps : List Str} {sp : Sp} (F : FnOk G.P G.w G.K G.mg G.base CX k f fd ps sp) (e1 : Y.prog = G.P) (e2 : Y.w = G.w) (e3 : Y.K = G.K) (e4 : Y.mg = G.mg) (e5 : Y.base = G.base) :
    FnOk Y.prog Y.w Y.K Y.mg Y.base CX k f fd ps sp := by rw [e1, e2, e3, e4, e5]; exact F
/-- the callee's promise from what is wanted here -/
theorem call_post {F1 H1 : Hp} {r : R D} {Q : VK} (i : Same F1 H1) (h : Post G E m F1 H1 r Q) : PostG G E (relM G true) (wd m F1 H1) H1 r Q := by
  cases m with
  | true => exact h
  | false =>
    cases r with
    | ok d => exact fun v F' H' e rv => h v F1 H' ⟨.refl _, e.h, i.trans e.h, fun _ _ => rfl, i⟩ (rv.mono e.i)
    | err c => exact h
    | bad => exact h
theorem em_call [Calm G] (C : CxOk X G N k E) (F : FnM G k' x n false g) (hk : decide (k' ≤ k) = true) (hg : ∀ i, Gl (X i) x) (ha : AM X G E m O (e :: es) fa) (hdb : (x == ("__debug__" : Str)) = false := by decide) (hn : (e :: es).length = n := by rfl)
    (he : ∀ i, starEach (e :: es) (X i).env = (false, eval e (X i).env) :: starEach es (X i).env := by intro _; rfl) (hpl : ∀ i, (backTo pos (starEach es (X i).env)).any (·.1) = false := by intro _; rfl)
    (hln : ∀ env ds, fa env = .ok ds → ds.length = n) : EM X G E m O (.Call (.Name x p) (e :: es) [] pos) (eCall g fa) := by
  obtain ⟨f, fd, ps, ok, hm, hkp, hb, _⟩ := F.ex
  obtain ⟨t, ht, rd⟩ := ha.ex
  refine ⟨tCall (spF G false n g) [] E t, fun i => pe_call ((FnOk.cast ok (C.eP i) (C.ew i) (C.eK i) (C.emg i) (C.ebase i)).mono (of_decide_eq_true hk)) (C.room i) (hg i) (by rw [C.emg i]; exact hm) (by rw [C.eK i]; exact hkp) (by rw [C.eK i]; exact hb) .nil (by have q := C.pass i; rw [C.eP i, C.ew i] at q; exact q) (ht i) hdb (he i) (hpl i), fun F0 H0 F σ H env Q rl h => ?_⟩
  cases hf : fa env with
  | bad => unfold eCall at h; rw [hf] at h; exact h.elim
  | err c => unfold eCall at h; exact rd F0 H0 F σ H env _ rl (post_err hf h)
  | ok ds =>
    unfold eCall at h
    rw [hf] at h
    refine rd F0 H0 F σ H env _ rl (post_ok hf fun vs F1 H1 e1 r1 => ?_)
    rw [List.append_nil]
    exact ⟨wd m F1 H1, ds, wd_sub e1.i, by rw [r1.len]; exact hln env ds hf, r1, call_post e1.i (PostG.grow antiM h e1)⟩
theorem em_call0 [Calm G] (C : CxOk X G N k E) (F : FnM G k' x 0 false g) (hk : decide (k' ≤ k) = true) (hg : ∀ i, Gl (X i) x) (hdb : (x == ("__debug__" : Str)) = false := by decide) : EM X G E m O (.Call (.Name x p) [] [] pos) (eCall g aNil) := by
  obtain ⟨f, fd, ps, ok, hm, hkp, hb, _⟩ := F.ex
  refine ⟨tCall (spF G false 0 g) [] E tNil, fun i => pe_call0 ((FnOk.cast ok (C.eP i) (C.ew i) (C.eK i) (C.emg i) (C.ebase i)).mono (of_decide_eq_true hk)) (C.room i) (hg i) (by rw [C.emg i]; exact hm) (by rw [C.eK i]; exact hkp) (by rw [C.eK i]; exact hb) .nil (by have q := C.pass i; rw [C.eP i, C.ew i] at q; exact q) hdb, fun F0 H0 F σ H env Q rl h => ?_⟩
  exact ⟨wd m F H, [], wd_sub rl.ext.i, rfl, rfl, call_post rl.ext.i h⟩
theorem eo_call [Calm G] (C : CxOk X G N k E) (F : FnM G k' x n true g) (hk : decide (k' ≤ k) = true) (hg : ∀ i, Gl (X i) x) (ha : AM X G E true O (e :: es) fa) (hdb : (x == ("__debug__" : Str)) = false := by decide)
    (he : ∀ i, starEach (e :: es) (X i).env = (false, eval e (X i).env) :: starEach es (X i).env := by intro _; rfl) (hpl : ∀ i, (backTo pos (starEach es (X i).env)).any (·.1) = false := by intro _; rfl)
    (hln : ∀ env ds, fa env = .ok ds → ds.length = n) : EO X G E O (.Call (.Name x p) (e :: es) [] pos) (eCall g fa) := by
  obtain ⟨f, fd, ps, ok, hm, hkp, hb, _⟩ := F.ex
  obtain ⟨t, ht, rd⟩ := ha.ex
  refine ⟨tCall (spF G true n g) [] E t, fun i => pe_call ((FnOk.cast ok (C.eP i) (C.ew i) (C.eK i) (C.emg i) (C.ebase i)).mono (of_decide_eq_true hk)) (C.room i) (hg i) (by rw [C.emg i]; exact hm) (by rw [C.eK i]; exact hkp) (by rw [C.eK i]; exact hb) .nil (by have q := C.pass i; rw [C.eP i, C.ew i] at q; exact q) (ht i) hdb (he i) (hpl i), fun F0 H0 F σ H env Q rl h => ?_⟩
  cases hf : fa env with
  | bad => unfold eCall at h; rw [hf] at h; exact h.elim
  | err c => unfold eCall at h; exact rd F0 H0 F σ H env _ rl (post_err hf h)
  | ok ds =>
    unfold eCall at h
    rw [hf] at h
    refine rd F0 H0 F σ H env _ rl (post_ok hf fun vs F1 H1 e1 r1 => ?_)
    rw [List.append_nil]
    exact ⟨F1, ds, e1.i, by rw [r1.len]; exact hln env ds hf, r1, PostG.grow antiO h e1⟩
theorem ln_nil : ∀ env ds, aNil env = .ok ds → ds.length = 0 := fun env ds h => by cases h; rfl
theorem ln_cons {f : Ev → R D} {g : Ev → R (List D)} {n : Nat} (h : ∀ env ds, g env = .ok ds → ds.length = n) : ∀ env ds, aCons f g env = .ok ds → ds.length = n + 1 := fun env ds e => by
  unfold aCons at e
  cases h1 : f env with
  | err c => rw [h1] at e; cases e
  | bad => rw [h1] at e; cases e
  | ok d =>
    rw [h1] at e
    cases h2 : g env with
    | err c => rw [h2] at e; cases e
    | bad => rw [h2] at e; cases e
    | ok ds' =>
      rw [h2] at e
      cases e
      rw [List.length_cons, h env ds' h2]
end
end G81

/-! Statements, defs. -/
namespace G81
open PySem PySem.Spec PyProof.Rows L2

/-- how a statement ends -/
inductive Out where
  | nx (e : Ev) | rt (d : D) | er (c : Str) | bad
def SPost (G : Gx) (E : XK) (own : Bool) (F0 H0 : Hp) (O' : List Nat) (F : Hp) : Out → Ends → Prop
  | .nx env', D => ∀ F' σ' H', Same F F' → Rel G F0 H0 O' F' σ' H' env' → D.nx σ' H'
  | .rt d, D => ∀ v F' H', Ext F0 H0 F' H' → relF G own H0 F' H' d v → D.rt v H'
  | .er c, _ => ErrOk G E H0 c
  | .bad, _ => False
structure SxOk {ι : Type} (X : ι → Cx) (G : Gx) (N : List Str) (k : Nat) (E : XK) : Prop where
  c : CxOk X G N k E
  po : ∀ i, PassesOwn (model (X i).prog (X i).w) (X i).A (X i).env (X i).xe
  tk : ∀ i, Takes (X i) (fun c d _ H => E c d H)
section
variable {ι : Type} (X : ι → Cx) (G : Gx) (E : XK) (own : Bool)
structure SM (O O' : List Nat) (st : Stmt) (f : Ev → Out) : Prop where
  ex : ∃ t : TS, (∀ i, PS (X i) st t) ∧ ∀ F0 H0 F σ H env D, Rel G F0 H0 O F σ H env → SPost G E own F0 H0 O' F (f env) D → t D σ H
structure BM (O O' : List Nat) (sts : List Stmt) (f : Ev → Out) : Prop where
  ex : ∃ t : TS, (∀ i, PSs (X i) sts t) ∧ ∀ F0 H0 F σ H env D, Rel G F0 H0 O F σ H env → SPost G E own F0 H0 O' F (f env) D → t D σ H
/-- an expression that may change lists of one's own -/
structure XM (O : List Nat) (e : Expr) (f : Ev → R (D × Ev)) : Prop where
  ex : ∃ t : TE, (∀ i, PE (X i) e t) ∧ ∀ F0 H0 F σ H env Q, Rel G F0 H0 O F σ H env →
    (match f env with
      | .ok (d, env') => ∀ v F' H', Same F F' → Rel G F0 H0 O F' σ H' env' → Rep G F' d v → Q v H'
      | .err c => ErrOk G E H0 c
      | .bad => False) → t σ H Q
structure XA (O : List Nat) (es : List Expr) (f : Ev → R (List D × Ev)) : Prop where
  ex : ∃ t : TA, (∀ i, PA (X i) es t) ∧ ∀ F0 H0 F σ H env Q, Rel G F0 H0 O F σ H env →
    (match f env with
      | .ok (ds, env') => ∀ vs F' H', Same F F' → Rel G F0 H0 O F' σ H' env' → RepL G F' ds vs → Q vs H'
      | .err c => ErrOk G E H0 c
      | .bad => False) → t σ H Q
end
def sOf {α : Type} (r : R α) (f : α → Out) : Out := match r with
  | .ok a => f a
  | .err c => .er c
  | .bad => .bad
@[simp] theorem sOf_ok {α : Type} (a : α) (f : α → Out) : sOf (.ok a) f = f a := rfl
@[simp] theorem sOf_err {α : Type} (c : Str) (f : α → Out) : sOf (.err c) f = .er c := rfl
@[simp] theorem sOf_bad {α : Type} (f : α → Out) : sOf .bad f = .bad := rfl
section
variable {ι : Type} {X : ι → Cx} {G : Gx} {E : XK} {N : List Str} {k : Nat} {own : Bool} {O O' O1 O2 : List Nat} {pos : Pos} {e : Expr} {fe : Ev → R D} {F0 H0 F H F1 H1 : Hp} {σ : L2.St} {env : Ev}
theorem SPost.mono {o : Out} {D : Ends} (s : Same F F1) (h : SPost G E own F0 H0 O F o D) : SPost G E own F0 H0 O F1 o D := by
  cases o with
  | nx e => exact fun F' σ' H' s' r => h F' σ' H' (s.trans s') r
  | rt d => exact h
  | er c => exact h
  | bad => exact h
/-- from what a statement wants to what its expression is to give -/
theorem SPost.of {α β : Type} {rel : Hp → Hp → Hp → α → β → Prop} {r : R α} {f : α → Out} {D : Ends} {Q : β → Hp → Prop} (rl : Rel G F0 H0 O1 F σ H env) (h : SPost G E own F0 H0 O F (sOf r f) D)
    (k : ∀ a b F1 H1, Ext F H F1 H1 → rel H F1 H1 a b → SPost G E own F0 H0 O F1 (f a) D → Q b H1) : PostG G E rel F H r Q := by
  cases r with
  | ok a => exact fun b F1 H1 e rb => k a b F1 H1 e rb (SPost.mono e.f h)
  | err c => exact ErrOk.grow h rl.ext.h
  | bad => exact h

/-! ### blocks -/
@[simp] def sNil : Ev → Out := fun env => .nx env
@[simp] def sSeq (f g : Ev → Out) : Ev → Out := fun env => match f env with
  | .nx e => g e
  | o => o
theorem bm_nil (hO : ∀ j, j ∈ O' → j ∈ O) : BM X G E own O O' [] sNil := by
  refine ⟨_, fun i => pss_nil, fun F0 H0 F σ H env D rl h => ?_⟩
  obtain ⟨F', s, r⟩ := rl.sub O' hO
  exact h F' σ H s r
theorem bm_cons {st : Stmt} {rest : List Stmt} {f g : Ev → Out} (h1 : SM X G E own O O1 st f) (h2 : BM X G E own O1 O' rest g) : BM X G E own O O' (st :: rest) (sSeq f g) := by
  obtain ⟨t, ht, rd⟩ := h1.ex
  obtain ⟨u, hu, rd2⟩ := h2.ex
  refine ⟨tSeq t u, fun i => pss_cons (ht i) (hu i), fun F0 H0 F σ H env D rl h => ?_⟩
  refine rd F0 H0 F σ H env { D with nx := u D } rl ?_
  unfold sSeq at h
  cases hf : f env with
  | nx e => rw [hf] at h; exact fun F' σ' H' s r => rd2 F0 H0 F' σ' H' e D r (SPost.mono s h)
  | rt d => rw [hf] at h; exact h
  | er c => rw [hf] at h; exact h
  | bad => rw [hf] at h; exact h
/-- lists of one's own are frozen ahead of a statement -/
theorem sm_weak {st : Stmt} {f : Ev → Out} (hO : ∀ j, j ∈ O1 → j ∈ O) (h : SM X G E own O1 O' st f) : SM X G E own O O' st f := by
  obtain ⟨t, ht, rd⟩ := h.ex
  refine ⟨t, ht, fun F0 H0 F σ H env D rl hp => ?_⟩
  obtain ⟨F', s, r⟩ := rl.sub O1 hO
  exact rd F0 H0 F' σ H env D r (SPost.mono s hp)

/-! ### stores -/
@[simp] def sSet (i : Nat) (f : Ev → R D) : Ev → Out := fun env => sOf (f env) fun d => .nx (Ev.set env i d)
theorem sm_set (C : CxOk X G N k E) (i : Nat) {x : Str} {pos' : Pos} (hN : N[i]? = some x) (hl : ∀ j, Loc (X j).env.scope x) (he : EM X G E true O e fe) (h1 : ∀ j, j ∈ O' ↔ j ∈ O ∧ j ≠ i)
    (hs : ∀ j, swapsWith e (some (.Name x pos')) pos.line (X j).env = pure false := by intro _; rfl) (hf : ∀ j, (X j).fn x = true ∨ (X j).env.scope.names.lookup x = some .local := by intro _; first | exact .inl rfl | exact .inr rfl) :
    SM X G E own O O' (.Assign [.Name x pos'] e pos) (sSet i fe) := by
  obtain ⟨t, ht, rd⟩ := he.ex
  refine ⟨tAsg t (gName i), fun j => ps_set (by rw [C.eN j]; exact C.nd) (by rw [C.eN j]; exact hN) (hl j) (ht j) (hs j) (hf j), fun F0 H0 F σ H env D rl h => ?_⟩
  refine rd F0 H0 F σ H env _ rl (SPost.of rl h fun d v F1 H1 e1 r1 h1' => ?_)
  exact h1' F1 _ H1 (.refl _) ((rl.grow e1).put r1 (fun j hj => (h1 j).mp hj) (fun j hj hn => (h1 j).mpr ⟨hj, hn⟩))
theorem own_ne {d : D} {j : Nat} {a : Addr} (rl : Rel G F0 H0 O F σ H env) (hj : j ∈ O) (he : Ev.get env j = some d) (ha : H a = none) : σ[j]? ≠ some (some (.ref a)) := fun z => by
  obtain ⟨v, e1, _, h2⟩ := rl.val j d he
  obtain ⟨b, xs, l, _, rfl, _, _, q, _⟩ := h2 hj
  rw [z] at e1; cases e1
  rw [ha] at q; cases q
theorem sm_setO (C : CxOk X G N k E) (i : Nat) {x : Str} {pos' : Pos} (hN : N[i]? = some x) (hl : ∀ j, Loc (X j).env.scope x) (he : EO X G E O e fe) (h1 : ∀ j, j ∈ O' ↔ j = i ∨ j ∈ O)
    (hs : ∀ j, swapsWith e (some (.Name x pos')) pos.line (X j).env = pure false := by intro _; rfl) (hf : ∀ j, (X j).fn x = true ∨ (X j).env.scope.names.lookup x = some .local := by intro _; first | exact .inl rfl | exact .inr rfl) :
    SM X G E own O O' (.Assign [.Name x pos'] e pos) (sSet i fe) := by
  obtain ⟨t, ht, rd⟩ := he.ex
  refine ⟨tAsg t (gName i), fun j => ps_set (by rw [C.eN j]; exact C.nd) (by rw [C.eN j]; exact hN) (hl j) (ht j) (hs j) (hf j), fun F0 H0 F σ H env D rl h => ?_⟩
  refine rd F0 H0 F σ H env _ rl (SPost.of rl h fun d v F1 H1 e1 r1 h1' => ?_)
  obtain ⟨a, xs, l, rfl, rfl, q0, q1, q2, q3⟩ := r1
  exact h1' F1 _ H1 (.refl _) ((rl.grow e1).putO (rl.ext.h.free q0) q1 q2 q3 (fun j d hj _ hd => own_ne rl hj hd q0) h1)
/-- a, b = e -/
@[simp] def sSetT (is : List Nat) (f : Ev → R D) : Ev → Out := fun env => sOf (f env) fun d => sOf (tsT is d env) .nx
theorem sm_asg (C : CxOk X G N k E) {tg : Expr} {vs : List Nat} {tgt : D → Ev → R Ev} (hne : ∀ d env c, tgt d env ≠ .err c) (hg : GM X G O vs tg tgt) (he : EM X G E true O e fe)
    (hs : ∀ j, swapsWithSole [tg] e pos.line (X j).env = pure false := by intro _; rfl) (hw : ∀ j, swappedStores [tg] e (X j).env = pure none := by intro _; rfl)
    (h1 : ∀ j, (assignEach [tg] (X j).env).map (·.2) = [assign tg (X j).env] := by intro _; rfl) : SM X G E own O O (.Assign [tg] e pos) (fun env => sOf (fe env) fun d => sOf (tgt d env) .nx) := by
  obtain ⟨t, ht, rd⟩ := he.ex
  obtain ⟨u, hu, rd2⟩ := hg.ex
  refine ⟨tAsg t u, fun j => ps_asg (ht j) (hu j) (hs j) (hw j) (h1 j), fun F0 H0 F σ H env D rl h => ?_⟩
  refine rd F0 H0 F σ H env _ rl (SPost.of rl h fun d v F1 H1 e1 r1 h1' => ?_)
  cases ht2 : tgt d env with
  | ok env1 => rw [ht2] at h1'; exact rd2 F0 H0 F1 σ H1 env d v _ (rl.grow e1) r1 ⟨env1, ht2, fun σ' r' _ => h1' F1 σ' H1 (.refl _) r'⟩
  | err c => exact absurd ht2 (hne _ _ _)
  | bad => rw [ht2] at h1'; exact h1'.elim
theorem tsT_ne {is : List Nat} : ∀ (d : D) (env : Ev) (c : Str), tsT is d env ≠ .err c := by
  have go : ∀ (is : List Nat) (ds : List D) (env : Ev) (c : Str), setAll is ds env ≠ .err c := by
    intro is
    induction is with
    | nil => intro ds env c h; cases ds <;> cases h
    | cons i is ih =>
      intro ds env c h
      cases ds with
      | nil => cases h
      | cons d ds => exact ih ds _ c h
  intro d env c h
  cases d <;> first | cases h; done | exact go _ _ _ _ h
theorem ln_pos {es : List Stmt} : True := trivial

/-! ### small statements -/
@[simp] def sIf (c : Ev → R Bool) (f g : Ev → Out) : Ev → Out := fun env => sOf (c env) fun b => if b = true then f env else g env
theorem sm_if {c : Expr} {a b : List Stmt} {fc : Ev → R Bool} {f g : Ev → Out} (hc : TM X G E O c fc) (ha : BM X G E own O O' a f) (hb : BM X G E own O O' b g) : SM X G E own O O' (.If c a b pos) (sIf fc f g) := by
  obtain ⟨t, ht, rd⟩ := hc.ex
  obtain ⟨u, hu, rd2⟩ := ha.ex
  obtain ⟨v, hv, rd3⟩ := hb.ex
  refine ⟨tIfS t u v, fun j => ps_if (ht j) (hu j) (hv j), fun F0 H0 F σ H env D rl h => ?_⟩
  refine rd F0 H0 F σ H env _ rl (SPost.of rl h fun d w F1 H1 e1 r1 h1 => ?_)
  subst r1
  cases d with
  | true => exact rd2 F0 H0 F1 σ H1 env D (rl.grow e1) h1
  | false => exact rd3 F0 H0 F1 σ H1 env D (rl.grow e1) h1
@[simp] def sRet (f : Ev → R D) : Ev → Out := fun env => sOf (f env) .rt
theorem sm_ret (he : EM X G E true O e fe) : SM X G E false O O' (.Return (some e) pos) (sRet fe) := by
  obtain ⟨t, ht, rd⟩ := he.ex
  refine ⟨tRet t, fun j => ps_ret (ht j), fun F0 H0 F σ H env D rl h => ?_⟩
  refine rd F0 H0 F σ H env _ rl (SPost.of rl h fun d v F1 H1 e1 r1 h1 => ?_)
  exact h1 v F1 H1 (rl.ext.trans e1) r1
theorem sm_retO (he : EO X G E O e fe) : SM X G E true O O' (.Return (some e) pos) (sRet fe) := by
  obtain ⟨t, ht, rd⟩ := he.ex
  refine ⟨tRet t, fun j => ps_ret (ht j), fun F0 H0 F σ H env D rl h => ?_⟩
  refine rd F0 H0 F σ H env _ rl (SPost.of rl h fun d v F1 H1 e1 r1 h1 => ?_)
  exact h1 v F1 H1 (rl.ext.trans e1) (antiO _ _ _ _ _ _ rl.ext.h r1)
/-- a list of one's own is handed out -/
theorem sm_retV (C : CxOk X G N k E) (i : Nat) {x : Str} {p : Pos} (hi : decide (i ∈ O) = true) (hN : N[i]? = some x) (hv : ∀ j, Vis (X j).env.scope x) (hd : (x == ("__debug__" : Str)) = false := by decide) (hcd : (x == ("__classdict__" : Str)) = false := by decide) :
    SM X G E true O O' (.Return (some (.Name x p)) pos) (sRet (eVar i)) := by
  refine ⟨tRet (tVar i), fun j => ps_ret (pe_var (by rw [C.eN j]; exact hN) (hv j) hd hcd), fun F0 H0 F σ H env D rl h => ?_⟩
  unfold sRet eVar at h
  cases he : Ev.get env i with
  | none => rw [he] at h; exact h.elim
  | some d =>
    rw [he] at h
    obtain ⟨v, e1, _, h2⟩ := rl.val i d he
    obtain ⟨a, xs, l, rfl, rfl, q1, q2, q3, q4⟩ := h2 (of_decide_eq_true hi)
    exact ⟨_, e1, h (.ref a) F H rl.ext ⟨a, xs, l, rfl, rfl, q1, q2, q3, q4⟩⟩
theorem sm_doc {x j} {p1 p2 : Pos} : SM X G E own O O (.Expr (.Constant (.str x) j p1) p2) sNil := ⟨tNext, fun _ => ps_doc, fun F0 H0 F σ H env D rl h => h F σ H (.refl _) rl⟩

/-! ### loops -/
@[simp] def forF (tgt : D → Ev → R Ev) (body : Ev → Out) : List D → Ev → Out
  | [], e => .nx e
  | d :: ds, e => sOf (tgt d e) fun e1 => match body e1 with
    | .nx e2 => forF tgt body ds e2
    | o => o
@[simp] def sFor (g : Ev → R (List D)) (tgt : D → Ev → R Ev) (body : Ev → Out) : Ev → Out := fun env => sOf (g env) fun ds => forF tgt body ds env
theorem sm_for [Calm G] (C : SxOk X G N k E) {tg iter : Expr} {body : List Stmt} {g : Ev → R (List D)} {tgt : D → Ev → R Ev} {vs : List Nat} {fb : Ev → Out} (hne : ∀ d env c, tgt d env ≠ .err c) (hi : IM X G E true true O tg iter g) (hg : GM X G O vs tg tgt) (hb : BM X G E own O O body fb)
    (hs : ∀ j x, foldedSetIterable iter (X j).env x = pure x := by intro _ _; rfl) : SM X G E own O O (.For tg iter body [] pos) (sFor g tgt fb) := by
  obtain ⟨ti, pi, ri⟩ := hi.ex
  obtain ⟨tG, pg, rg⟩ := hg.ex
  obtain ⟨tB, pb, rb⟩ := hb.ex
  refine ⟨tFor ti tG tB, fun j => ps_for (C.po j) (C.c.calm j) (pi j) (pg j) (pb j) (hs j), fun F0 H0 F σ H env D rl h => ?_⟩
  refine ri F0 H0 F σ H env _ rl (SPost.of rl h fun ds J F1 H1 e1 r1 h1 => ?_)
  refine ⟨fun i n σ2 H2 => n = ds.length - i ∧ i ≤ ds.length ∧ ∃ F2 env2, Same F1 F2 ∧ Rel G F0 H0 O F2 σ2 H2 env2 ∧ SPost G E own F0 H0 O F2 (forF tgt fb (ds.drop i) env2) D, ⟨ds.length, by simp, Nat.zero_le _, F1, env, .refl _, rl.grow e1, h1⟩, ?_⟩
  rintro i n σ2 H2 ⟨rfl, hi', F2, env2, s2, rl2, h2⟩
  by_cases hlt : i < ds.length
  · have hd : ds[i]? = some ds[i] := List.getElem?_eq_getElem hlt
    obtain ⟨go, yl⟩ := (r1 i F2 H2 s2 rl2.ext.i (fun z => by cases z)).1 _ hd
    refine .inr ⟨go, fun σ' H' => ∃ F2 env2, Same F1 F2 ∧ Rel G F0 H0 O F2 σ' H' env2 ∧ SPost G E own F0 H0 O F2 (forF tgt fb (ds.drop (i + 1)) env2) D, fun σ' H' q => ⟨ds.length - (i + 1), by omega, rfl, hlt, q⟩, fun x H3 hy => ?_⟩
    obtain ⟨F3, e3, rx⟩ := yl x H3 hy
    rw [List.drop_eq_getElem_cons hlt, forF] at h2
    cases ht1 : tgt ds[i] env2 with
    | err c => exact absurd ht1 (hne _ _ _)
    | bad => rw [ht1] at h2; exact h2.elim
    | ok env3 =>
      rw [ht1] at h2
      refine rg F0 H0 F3 σ2 H3 env2 ds[i] x _ (rl2.grow e3) rx ⟨env3, ht1, fun σ' rl3 _ => ?_⟩
      refine rb F0 H0 F3 σ' H3 env3 _ rl3 ?_
      have h2 : SPost G E own F0 H0 O F2 (match fb env3 with | .nx e2 => forF tgt fb (ds.drop (i + 1)) e2 | o => o) D := h2
      cases hf : fb env3 with
      | nx e2 => rw [hf] at h2; exact fun F' σ'' H' s' r' => ⟨F', e2, s2.trans (e3.f.trans s'), r', SPost.mono (e3.f.trans s') h2⟩
      | rt d => rw [hf] at h2; exact h2
      | er c => rw [hf] at h2; exact h2
      | bad => rw [hf] at h2; exact h2
  · have e : i = ds.length := by omega
    subst e
    rw [List.drop_length] at h2
    exact .inl ⟨(r1 _ F2 H2 s2 rl2.ext.i (fun z => by cases z)).2 (Nat.le_refl _), h2 F2 σ2 H2 (.refl _) rl2⟩
end
end G81

/-! Loops by a test, changed lists, defs. -/
namespace G81
open PySem PySem.Spec PyProof.Rows L2

/-! ### while -/
def whN (c : Ev → R Bool) (b : Ev → Out) : Nat → Ev → Out
  | 0, _ => .bad
  | n + 1, e => sOf (c e) fun t => if t = true then (match b e with
    | .nx e2 => whN c b n e2
    | o => o) else .nx e
theorem whN_succ {c : Ev → R Bool} {b : Ev → Out} : ∀ {n : Nat} {e : Ev}, whN c b n e ≠ .bad → whN c b (n + 1) e = whN c b n e
  | 0, e, h => absurd rfl h
  | n + 1, e, h => by
    rw [whN] at h
    rw [whN, whN]
    cases hc : c e with
    | err x => rfl
    | bad => rfl
    | ok t =>
      rw [hc] at h
      cases t with
      | false => rfl
      | true =>
        simp only [sOf_ok, if_true] at h ⊢
        cases hb : b e with
        | nx e2 => rw [hb] at h; exact whN_succ (n := n) h
        | rt d => rfl
        | er x => rfl
        | bad => rfl
theorem whN_le {c : Ev → R Bool} {b : Ev → Out} {n m : Nat} {e : Ev} (h : whN c b n e ≠ .bad) (hm : n ≤ m) : whN c b m e = whN c b n e := by
  induction hm with
  | refl => rfl
  | step _ ih => rw [whN_succ (by rw [ih]; exact h), ih]
open Classical in
noncomputable def sWh (c : Ev → R Bool) (b : Ev → Out) : Ev → Out := fun e => if h : ∃ n, whN c b n e ≠ .bad then whN c b (Classical.choose h) e else .bad
theorem sWh_of {c : Ev → R Bool} {b : Ev → Out} {n : Nat} {e : Ev} {o : Out} (h : whN c b n e = o) (ho : o ≠ .bad) : sWh c b e = o := by
  have hx : ∃ n, whN c b n e ≠ .bad := ⟨n, by rw [h]; exact ho⟩
  unfold sWh
  rw [dif_pos hx]
  have h1 := Classical.choose_spec hx
  rcases Nat.le_total n (Classical.choose hx) with z | z
  · rw [whN_le (by rw [h]; exact ho) z]; exact h
  · rw [← h, whN_le h1 z]
/-- one turn of a while -/
theorem sWh_true {c : Ev → R Bool} {b : Ev → Out} {e e2 : Ev} (hc : c e = .ok true) (hb : b e = .nx e2) : sWh c b e = sWh c b e2 := by
  by_cases hx : ∃ n, whN c b n e2 ≠ .bad
  · obtain ⟨n, hn⟩ := hx
    rw [sWh_of (n := n) (e := e2) rfl hn]
    exact sWh_of (n := n + 1) (by rw [whN, hc]; simp only [sOf_ok, if_true]; rw [hb]) hn
  · have hy : ¬ ∃ n, whN c b n e ≠ .bad := fun ⟨n, hn⟩ => by
      cases n with
      | zero => exact hn rfl
      | succ n =>
        rw [whN, hc] at hn
        simp only [sOf_ok, if_true] at hn
        rw [hb] at hn
        exact hx ⟨n, hn⟩
    unfold sWh
    rw [dif_neg hx, dif_neg hy]
theorem sWh_false {c : Ev → R Bool} {b : Ev → Out} {e : Ev} (hc : c e = .ok false) : sWh c b e = .nx e :=
  sWh_of (n := 1) (by rw [whN, hc]; rfl) (by simp)
theorem sWh_end {c : Ev → R Bool} {b : Ev → Out} {e : Ev} {o : Out} (hc : c e = .ok true) (hb : b e = o) (h1 : ∀ e2, o ≠ .nx e2) : sWh c b e = o := by
  by_cases ho : o = .bad
  · subst ho
    have hy : ¬ ∃ n, whN c b n e ≠ .bad := fun ⟨n, hn⟩ => by
      cases n with
      | zero => exact hn rfl
      | succ n => rw [whN, hc] at hn; simp only [sOf_ok, if_true] at hn; rw [hb] at hn; exact hn rfl
    unfold sWh
    rw [dif_neg hy]
  · refine sWh_of (n := 1) ?_ ho
    rw [whN, hc]
    simp only [sOf_ok, if_true]
    rw [hb]
    cases o with
    | nx e2 => exact absurd rfl (h1 e2)
    | _ => rfl
section
variable {ι : Type} {X : ι → Cx} {G : Gx} {E : XK} {N : List Str} {k : Nat} {own : Bool} {O O' O1 O2 : List Nat} {pos : Pos} {e : Expr} {fe : Ev → R D} {F0 H0 F H F1 H1 : Hp} {σ : L2.St} {env : Ev}
theorem sm_while (C : SxOk X G N k E) {c : Expr} {body : List Stmt} {fc : Ev → R Bool} {fb : Ev → Out} (hc : TM X G E O c fc) (hb : BM X G E own O O body fb) : SM X G E own O O (.While c body [] pos) (sWh fc fb) := by
  obtain ⟨tc, pc, rc⟩ := hc.ex
  obtain ⟨tB, pb, rb⟩ := hb.ex
  refine ⟨tWhile tc tB, fun j => ps_while (C.po j) (pc j) (pb j), fun F0 H0 F σ H env D rl h => ?_⟩
  unfold sWh at h
  split at h
  · rename_i hx
    generalize Classical.choose hx = n0 at h
    refine ⟨fun n σ2 H2 => ∃ F2 env2, Rel G F0 H0 O F2 σ2 H2 env2 ∧ SPost G E own F0 H0 O F2 (whN fc fb n env2) D, ⟨n0, F, env, rl, h⟩, ?_⟩
    rintro n σ2 H2 ⟨F2, env2, rl2, h2⟩
    cases n with
    | zero => exact h2.elim
    | succ n =>
      rw [whN] at h2
      refine rc F0 H0 F2 σ2 H2 env2 _ rl2 (SPost.of rl2 h2 fun t b F3 H3 e3 r3 h3 => ?_)
      subst r3
      cases t with
      | false => exact h3 F3 σ2 H3 (.refl _) (rl2.grow e3)
      | true =>
        rw [if_pos rfl]
        refine ⟨fun σ' H' => ∃ F2 env2, Rel G F0 H0 O F2 σ' H' env2 ∧ SPost G E own F0 H0 O F2 (whN fc fb n env2) D, fun σ' H' q => ⟨n, Nat.lt_succ_self _, q⟩, ?_⟩
        refine rb F0 H0 F3 σ2 H3 env2 _ (rl2.grow e3) ?_
        simp only [if_true] at h3
        cases hf : fb env2 with
        | nx e2 => rw [hf] at h3; exact fun F' σ'' H' s' r' => ⟨F', e2, r', SPost.mono s' h3⟩
        | rt d => rw [hf] at h3; exact h3
        | er c => rw [hf] at h3; exact h3
        | bad => rw [hf] at h3; exact h3
  · exact h.elim

/-! ### changed lists -/
@[simp] def xOf (f : Ev → R D) : Ev → R (D × Ev) := fun env => (f env).bind fun d => .ok (d, env)
theorem EM.xm (h : EM X G E true O e fe) : XM X G E O e (xOf fe) := by
  obtain ⟨t, ht, rd⟩ := h.ex
  refine ⟨t, ht, fun F0 H0 F σ H env Q rl hq => rd F0 H0 F σ H env Q rl ?_⟩
  unfold xOf at hq
  cases hf : fe env with
  | ok d => rw [hf] at hq; exact fun v F1 H1 e1 r1 => hq v F1 H1 e1.f (rl.grow e1) r1
  | err c => rw [hf] at hq; exact ErrOk.grow hq rl.ext.h
  | bad => rw [hf] at hq; exact hq
@[simp] def lstOf : Option D → Option (List D)
  | some (.lst l) => some l
  | _ => none
theorem lstOf_eq {o : Option D} {l : List D} (h : lstOf o = some l) : o = some (.lst l) := by
  cases o with
  | none => cases h
  | some d => cases d <;> first | cases h; done | (cases h; rfl)
def popH : List D → Option (D × List D)
  | [] => none
  | d :: l => some (d, l)
def xPop0 (i : Nat) : Ev → R (D × Ev) := fun env => match (lstOf (Ev.get env i)).bind popH with
  | some (d, l) => .ok (d, Ev.set env i (.lst l))
  | none => .bad
theorem own_at (rl : Rel G F0 H0 O F σ H env) {i : Nat} (hi : i ∈ O) {d : D} (he : Ev.get env i = some d) : ∃ a xs l, d = .lst l ∧ σ[i]? = some (some (.ref a)) ∧ H a = some (.lst xs) ∧ F a = none ∧ H0 a = none ∧ RepL G F l xs := by
  obtain ⟨v, e1, _, h2⟩ := rl.val i d he
  obtain ⟨a, xs, l, rfl, rfl, q1, q2, q3, q4⟩ := h2 hi
  exact ⟨a, xs, l, rfl, e1, q3, q2, q1, q4⟩
section
variable {x : Str} {p apos cpos : Pos}
theorem xm_pop0 (C : CxOk X G N k E) (i : Nat) (hi : decide (i ∈ O) = true) (hN : N[i]? = some x) (hv : ∀ j, Vis (X j).env.scope x) (hd : (x == ("__debug__" : Str)) = false := by decide) (hcd : (x == ("__classdict__" : Str)) = false := by decide)
    {j0 : Nat} {p0 : Pos} (hbase : ∀ j, attributeBase (.Name x p) "pop" (X j).env (eval (.Name x p) (X j).env) = eval (.Name x p) (X j).env := by intro _; rfl) (hline : (apos.endLine == cpos.line) = true := by rfl) :
    XM X G E O (.Call (.Attribute (.Name x p) "pop" apos) [.Constant (.int 0) j0 p0] [] cpos) (xPop0 i) := by
  refine ⟨tBM G.K "list" rPopAt (tVar i) (tCons (tC (.int 0)) tNil), fun j => by
    have q := pe_bm (X := X j) (apos := apos) (cpos := cpos) PySem.F.plainAttrs_list PySem.F.slot_list_pop PySem.F.type_list_pop mt_popAt (pe_var (i := i) (by rw [C.eN j]; exact hN) (hv j) hd hcd) (pa_cons (pe_int (i := 0) (j := j0) (pos := p0)) pa_nil) (hbase j) rfl hline
    rw [C.eK j] at q
    exact q, fun F0 H0 F σ H env Q rl h => ?_⟩
  unfold xPop0 at h
  cases hl0 : lstOf (Ev.get env i) with
  | none => rw [hl0] at h; exact h.elim
  | some l0 =>
    have he := lstOf_eq hl0
    rw [hl0] at h
    obtain ⟨a, xs, l', e, es, hH, hF, h0, hl⟩ := own_at rl (of_decide_eq_true hi) he
    cases e
    cases l0 with
    | nil => exact h.elim
    | cons d l =>
      obtain ⟨v, vs, rfl, r1, r2⟩ := hl
      refine ⟨_, es, .inl ⟨rfl, _, .inl (.inl hH)⟩, a, v :: vs, 0, 0, v, rfl, rfl, hH, by decide, by decide, ?_, rfl, ?_⟩
      · simp [seqIndex?]
      · exact h v F _ (.refl _) (rl.mut (of_decide_eq_true hi) he es r2) r1
/-- l.pop() -/
def popL (l : List D) : Option (D × List D) := l.getLast?.map fun d => (d, l.dropLast)
def xPop (i : Nat) : Ev → R (D × Ev) := fun env => match (lstOf (Ev.get env i)).bind popL with
  | some (d, l) => .ok (d, Ev.set env i (.lst l))
  | none => .bad
theorem RepL.dropLast {F : Hp} {l : List D} {xs : List V} (h : RepL G F l xs) : RepL G F l.dropLast xs.dropLast := by
  rw [List.dropLast_eq_take, List.dropLast_eq_take, h.len]
  exact h.take _
theorem xm_pop (C : CxOk X G N k E) (i : Nat) (hi : decide (i ∈ O) = true) (hN : N[i]? = some x) (hv : ∀ j, Vis (X j).env.scope x) (hd : (x == ("__debug__" : Str)) = false := by decide) (hcd : (x == ("__classdict__" : Str)) = false := by decide)
    (hbase : ∀ j, attributeBase (.Name x p) "pop" (X j).env (eval (.Name x p) (X j).env) = eval (.Name x p) (X j).env := by intro _; rfl) (hline : (apos.endLine == cpos.line) = true := by rfl) :
    XM X G E O (.Call (.Attribute (.Name x p) "pop" apos) [] [] cpos) (xPop i) := by
  refine ⟨tBM0 G.K "list" rPop (tVar i), fun j => by
    have q := pe_bm0 (X := X j) (apos := apos) (cpos := cpos) PySem.F.plainAttrs_list PySem.F.slot_list_pop PySem.F.type_list_pop mt_pop (pe_var (i := i) (pos := p) (by rw [C.eN j]; exact hN) (hv j) hd hcd) (hbase j) hline
    rw [C.eK j] at q
    exact q, fun F0 H0 F σ H env Q rl h => ?_⟩
  unfold xPop at h
  cases hl0 : lstOf (Ev.get env i) with
  | none => rw [hl0] at h; exact h.elim
  | some l =>
    have he := lstOf_eq hl0
    rw [hl0] at h
    obtain ⟨a, xs, l', e, es, hH, hF, h0, hl⟩ := own_at rl (of_decide_eq_true hi) he
    cases e
    simp only [Option.bind_some, popL] at h
    cases hd' : l.getLast? with
    | none => rw [hd'] at h; exact h.elim
    | some d =>
      rw [hd'] at h
      rw [List.getLast?_eq_getElem?] at hd'
      obtain ⟨v, hv', rv⟩ := hl.get hd'
      rw [← hl.len] at hv'
      exact ⟨_, es, .inl ⟨rfl, _, .inl (.inl hH)⟩, a, xs, v, rfl, rfl, hH, hv', h v F _ (.refl _) (rl.mut (of_decide_eq_true hi) he es hl.dropLast) rv⟩
/-- argument lists whose items may change lists of one's own -/
def xaNil : Ev → R (List D × Ev) := fun env => .ok ([], env)
def xaCons (f : Ev → R (D × Ev)) (g : Ev → R (List D × Ev)) : Ev → R (List D × Ev) := fun env => (f env).bind fun p => (g p.2).bind fun q => .ok (p.1 :: q.1, q.2)
theorem xa_nil : XA X G E O [] xaNil := ⟨_, fun _ => pa_nil, fun F0 H0 F σ H env Q rl h => h [] F H (.refl _) rl rfl⟩
theorem xa_cons {es : List Expr} {f : Ev → R (D × Ev)} {g : Ev → R (List D × Ev)} (ha : XM X G E O e f) (hr : XA X G E O es g) (hs : ∀ i, starEach (e :: es) (X i).env = (false, eval e (X i).env) :: starEach es (X i).env := by intro _; rfl) : XA X G E O (e :: es) (xaCons f g) := by
  obtain ⟨t, ht, rd⟩ := ha.ex
  obtain ⟨u, hu, rd2⟩ := hr.ex
  refine ⟨tCons t u, fun i => pa_cons (ht i) (hu i) (hs i), fun F0 H0 F σ H env Q rl h => rd F0 H0 F σ H env _ rl ?_⟩
  unfold xaCons at h
  cases hf : f env with
  | err c => rw [hf] at h; exact h
  | bad => rw [hf] at h; exact h
  | ok p =>
    obtain ⟨d, env1⟩ := p
    rw [hf] at h
    intro v F1 H1 s1 r1 rv
    refine rd2 F0 H0 F1 σ H1 env1 _ r1 ?_
    simp only [R.bind_ok] at h
    cases hg : g env1 with
    | err c => rw [hg] at h; exact h
    | bad => rw [hg] at h; exact h
    | ok q =>
      obtain ⟨ds, env2⟩ := q
      rw [hg] at h
      intro vs F2 H2 s2 r2 rvs
      exact h (v :: vs) F2 H2 (s1.trans s2) r2 ⟨v, vs, rfl, rv.mono s2 _ _, rvs⟩
def xCall (g : List D → R D) (f : Ev → R (List D × Ev)) : Ev → R (D × Ev) := fun env => (f env).bind fun p => (g p.1).bind fun d => .ok (d, p.2)
theorem xm_call [Calm G] {es : List Expr} {k' n : Nat} {g : List D → R D} {fa : Ev → R (List D × Ev)} (C : CxOk X G N k E) (F : FnM G k' x n false g) (hk : decide (k' ≤ k) = true) (hg : ∀ i, Gl (X i) x) (ha : XA X G E O (e :: es) fa) (hdb : (x == ("__debug__" : Str)) = false := by decide)
    (he : ∀ i, starEach (e :: es) (X i).env = (false, eval e (X i).env) :: starEach es (X i).env := by intro _; rfl) (hpl : ∀ i, (backTo pos (starEach es (X i).env)).any (·.1) = false := by intro _; rfl)
    (hln : ∀ env ds, fa env = .ok ds → ds.1.length = n) : XM X G E O (.Call (.Name x p) (e :: es) [] pos) (xCall g fa) := by
  obtain ⟨f, fd, ps, ok, hm, hkp, hb, _⟩ := F.ex
  obtain ⟨t, ht, rd⟩ := ha.ex
  refine ⟨tCall (spF G false n g) [] E t, fun i => pe_call ((FnOk.cast ok (C.eP i) (C.ew i) (C.eK i) (C.emg i) (C.ebase i)).mono (of_decide_eq_true hk)) (C.room i) (hg i) (by rw [C.emg i]; exact hm) (by rw [C.eK i]; exact hkp) (by rw [C.eK i]; exact hb) .nil (by have q := C.pass i; rw [C.eP i, C.ew i] at q; exact q) (ht i) hdb (he i) (hpl i), fun F0 H0 F σ H env Q rl h => rd F0 H0 F σ H env _ rl ?_⟩
  unfold xCall at h
  cases hf : fa env with
  | err c => rw [hf] at h; exact h
  | bad => rw [hf] at h; exact h
  | ok p =>
    obtain ⟨ds, env1⟩ := p
    rw [hf] at h
    intro vs F1 H1 s1 r1 rv
    rw [List.append_nil]
    refine ⟨F1, ds, r1.ext.i, by rw [rv.len]; exact hln env _ hf, rv, ?_⟩
    simp only [R.bind_ok] at h
    cases hg' : g ds with
    | err c => rw [hg'] at h; exact ErrOk.grow h r1.ext.h
    | bad => rw [hg'] at h; exact h
    | ok d => rw [hg'] at h; exact fun v F2 H2 e2 r2 => h v F2 H2 (s1.trans e2.f) (r1.grow e2) r2
theorem lnx_nil : ∀ env ds, xaNil env = .ok ds → ds.1.length = 0 := fun env ds h => by cases h; rfl
theorem lnx_cons {f : Ev → R (D × Ev)} {g : Ev → R (List D × Ev)} {n : Nat} (h : ∀ env ds, g env = .ok ds → ds.1.length = n) : ∀ env ds, xaCons f g env = .ok ds → ds.1.length = n + 1 := fun env ds e => by
  unfold xaCons at e
  cases h1 : f env with
  | err c => rw [h1] at e; cases e
  | bad => rw [h1] at e; cases e
  | ok d =>
    rw [h1] at e
    simp only [R.bind_ok] at e
    cases h2 : g d.2 with
    | err c => rw [h2] at e; cases e
    | bad => rw [h2] at e; cases e
    | ok ds' =>
      rw [h2] at e
      cases e
      rw [List.length_cons, h _ ds' h2]
/-- an index of what an expression with changes gives -/
def xIx (f : Ev → R (D × Ev)) (i : Int) : Ev → R (D × Ev) := fun env => (f env).bind fun p => (dIx p.1 (.int i)).bind fun d => .ok (d, p.2)
@[simp] def sDrop (f : Ev → R (D × Ev)) : Ev → Out := fun env => sOf (f env) fun p => .nx p.2
theorem sm_drop {f : Ev → R (D × Ev)} (he : XM X G E O e f) (hs : ∀ j, swapsWith e none pos.line (X j).env = pure false := by intro _; rfl) : SM X G E own O O (.Expr e pos) (sDrop f) := by
  obtain ⟨t, ht, rd⟩ := he.ex
  refine ⟨tDrop t, fun j => ps_expr (ht j) (hs j), fun F0 H0 F σ H env D rl h => rd F0 H0 F σ H env _ rl ?_⟩
  unfold sDrop at h
  cases hf : f env with
  | err c => rw [hf] at h; exact h
  | bad => rw [hf] at h; exact h
  | ok p => rw [hf] at h; exact fun v F1 H1 s1 r1 rv => h F1 σ H1 s1 r1
def sSetX (i : Nat) (f : Ev → R (D × Ev)) : Ev → Out := fun env => sOf (f env) fun p => .nx (Ev.set p.2 i p.1)
theorem sm_setX (C : CxOk X G N k E) (i : Nat) {pos' : Pos} {f : Ev → R (D × Ev)} (hN : N[i]? = some x) (hl : ∀ j, Loc (X j).env.scope x) (he : XM X G E O e f) (h1 : ∀ j, j ∈ O' ↔ j ∈ O ∧ j ≠ i)
    (hs : ∀ j, swapsWith e (some (.Name x pos')) pos.line (X j).env = pure false := by intro _; rfl) (hf : ∀ j, (X j).fn x = true ∨ (X j).env.scope.names.lookup x = some .local := by intro _; first | exact .inl rfl | exact .inr rfl) :
    SM X G E own O O' (.Assign [.Name x pos'] e pos) (sSetX i f) := by
  obtain ⟨t, ht, rd⟩ := he.ex
  refine ⟨tAsg t (gName i), fun j => ps_set (by rw [C.eN j]; exact C.nd) (by rw [C.eN j]; exact hN) (hl j) (ht j) (hs j) (hf j), fun F0 H0 F σ H env D rl h => rd F0 H0 F σ H env _ rl ?_⟩
  unfold sSetX at h
  cases hf : f env with
  | err c => rw [hf] at h; exact h
  | bad => rw [hf] at h; exact h
  | ok p => rw [hf] at h; exact fun v F1 H1 s1 r1 rv => h F1 _ H1 s1 (r1.put rv (fun j hj => (h1 j).mp hj) (fun j hj hn => (h1 j).mpr ⟨hj, hn⟩))
/-- x.append(e), x.extend(e) -/
@[simp] def sApp (i : Nat) (f : Ev → R (D × Ev)) : Ev → Out := fun env => match Ev.get env i with
  | none => .bad
  | some _ => sOf (f env) fun p => match lstOf (Ev.get p.2 i) with
    | some l => if l.length < line then .nx (Ev.set p.2 i (.lst (l ++ [p.1]))) else .bad
    | none => .bad
@[simp] def sExt (i : Nat) (f : Ev → R (D × Ev)) : Ev → Out := fun env => match Ev.get env i with
  | none => .bad
  | some _ => sOf (f env) fun p => match lstOf (Ev.get p.2 i), p.1 with
    | some l, .lst m => if l.length + m.length ≤ line then .nx (Ev.set p.2 i (.lst (l ++ m))) else .bad
    | _, _ => .bad
theorem sm_app (C : CxOk X G N k E) (i : Nat) {f : Ev → R (D × Ev)} (hi : decide (i ∈ O) = true) (hN : N[i]? = some x) (hv : ∀ j, Vis (X j).env.scope x) (he : XM X G E O e f) (hd : (x == ("__debug__" : Str)) = false := by decide) (hcd : (x == ("__classdict__" : Str)) = false := by decide)
    (hs : ∀ j, swapsWith (.Call (.Attribute (.Name x p) "append" apos) [e] [] cpos) none pos.line (X j).env = pure false := by intro _; rfl)
    (hbase : ∀ j, attributeBase (.Name x p) "append" (X j).env (eval (.Name x p) (X j).env) = eval (.Name x p) (X j).env := by intro _; rfl)
    (hfew : ∀ j, ((backTo cpos (starEach [e] (X j).env)).all (fun x => !x.1) && (backToKw cpos (keywordEach [] (X j).env)).all (fun x => x.1.isSome) && decide ([e].length + ([] : List Keyword).length + (if ([] : List Keyword).isEmpty then 0 else 1) < 30)) = true := by intro _; rfl)
    (hline : (apos.endLine == cpos.line) = true := by rfl) (hst : ∀ j, starEach [e] (X j).env = (false, eval e (X j).env) :: starEach [] (X j).env := by intro _; rfl) :
    SM X G E own O O (.Expr (.Call (.Attribute (.Name x p) "append" apos) [e] [] cpos) pos) (sApp i f) := by
  obtain ⟨t, ht, rd⟩ := he.ex
  refine ⟨tDrop (tBM G.K "list" rAppend (tVar i) (tCons t tNil)), fun j => ps_expr (by
    have q := pe_bm (X := X j) (apos := apos) (cpos := cpos) PySem.F.plainAttrs_list PySem.F.slot_list_append PySem.F.type_list_append mt_append (pe_var (i := i) (pos := p) (by rw [C.eN j]; exact hN) (hv j) hd hcd) (pa_cons (ht j) pa_nil (hst j)) (hbase j) (hfew j) hline (hst j)
    rw [C.eK j] at q
    exact q) (hs j), fun F0 H0 F σ H env D rl h => ?_⟩
  unfold sApp at h
  cases hset : Ev.get env i with
  | none => rw [hset] at h; exact h.elim
  | some d0 =>
    rw [hset] at h
    obtain ⟨a, xs, l, rfl, es, hH, hF, h0, hl⟩ := own_at rl (of_decide_eq_true hi) hset
    refine ⟨_, es, .inl ⟨rfl, _, .inl (.inl hH)⟩, rd F0 H0 F σ H env _ rl ?_⟩
    cases hf : f env with
    | err c => rw [hf] at h; exact h
    | bad => rw [hf] at h; exact h
    | ok q =>
      obtain ⟨d, env1⟩ := q
      rw [hf] at h
      intro v F1 H1 s1 r1 rv
      simp only [sOf_ok] at h
      cases hl0 : lstOf (Ev.get env1 i) with
      | none => rw [hl0] at h; exact h.elim
      | some l1 =>
        rw [hl0] at h
        have he1 := lstOf_eq hl0
        obtain ⟨a1, xs1, l', e, es1, hH1, hF1, h01, hl1⟩ := own_at r1 (of_decide_eq_true hi) he1
        cases e
        rw [es] at es1
        cases es1
        simp only at h
        split at h
        · rename_i hz
          refine ⟨a, xs1, v, rfl, rfl, hH1, by rw [hl1.len, line_eq]; exact hz, ?_⟩
          exact h F1 σ _ s1 (r1.mut (of_decide_eq_true hi) he1 es (hl1.app (.one rv)))
        · exact h.elim
theorem sm_ext (C : CxOk X G N k E) (i : Nat) {f : Ev → R (D × Ev)} (hi : decide (i ∈ O) = true) (hN : N[i]? = some x) (hv : ∀ j, Vis (X j).env.scope x) (he : XM X G E O e f) (hd : (x == ("__debug__" : Str)) = false := by decide) (hcd : (x == ("__classdict__" : Str)) = false := by decide)
    (hs : ∀ j, swapsWith (.Call (.Attribute (.Name x p) "extend" apos) [e] [] cpos) none pos.line (X j).env = pure false := by intro _; rfl)
    (hbase : ∀ j, attributeBase (.Name x p) "extend" (X j).env (eval (.Name x p) (X j).env) = eval (.Name x p) (X j).env := by intro _; rfl)
    (hfew : ∀ j, ((backTo cpos (starEach [e] (X j).env)).all (fun x => !x.1) && (backToKw cpos (keywordEach [] (X j).env)).all (fun x => x.1.isSome) && decide ([e].length + ([] : List Keyword).length + (if ([] : List Keyword).isEmpty then 0 else 1) < 30)) = true := by intro _; rfl)
    (hline : (apos.endLine == cpos.line) = true := by rfl) (hst : ∀ j, starEach [e] (X j).env = (false, eval e (X j).env) :: starEach [] (X j).env := by intro _; rfl) :
    SM X G E own O O (.Expr (.Call (.Attribute (.Name x p) "extend" apos) [e] [] cpos) pos) (sExt i f) := by
  obtain ⟨t, ht, rd⟩ := he.ex
  refine ⟨tDrop (tBM G.K "list" rExtend (tVar i) (tCons t tNil)), fun j => ps_expr (by
    have q := pe_bm (X := X j) (apos := apos) (cpos := cpos) PySem.F.plainAttrs_list PySem.F.slot_list_extend PySem.F.type_list_extend mt_extend (pe_var (i := i) (pos := p) (by rw [C.eN j]; exact hN) (hv j) hd hcd) (pa_cons (ht j) pa_nil (hst j)) (hbase j) (hfew j) hline (hst j)
    rw [C.eK j] at q
    exact q) (hs j), fun F0 H0 F σ H env D rl h => ?_⟩
  unfold sExt at h
  cases hset : Ev.get env i with
  | none => rw [hset] at h; exact h.elim
  | some d0 =>
    rw [hset] at h
    obtain ⟨a, xs, l, rfl, es, hH, hF, h0, hl⟩ := own_at rl (of_decide_eq_true hi) hset
    refine ⟨_, es, .inl ⟨rfl, _, .inl (.inl hH)⟩, rd F0 H0 F σ H env _ rl ?_⟩
    cases hf : f env with
    | err c => rw [hf] at h; exact h
    | bad => rw [hf] at h; exact h
    | ok q =>
      obtain ⟨d, env1⟩ := q
      rw [hf] at h
      intro v F1 H1 s1 r1 rv
      simp only [sOf_ok] at h
      cases hl0 : lstOf (Ev.get env1 i) with
      | none => rw [hl0] at h; exact h.elim
      | some l1 =>
        rw [hl0] at h
        have he1 := lstOf_eq hl0
        obtain ⟨a1, xs1, l', e, es1, hH1, hF1, h01, hl1⟩ := own_at r1 (of_decide_eq_true hi) he1
        cases e
        rw [es] at es1
        cases es1
        cases d <;> first | exact h.elim | skip
        obtain ⟨b, ys, rfl, hb, hlb⟩ := rv
        simp only at h
        split at h
        · rename_i hz
          refine ⟨a, b, xs1, ys, rfl, rfl, hH1, r1.ext.i _ _ hb, by rw [hl1.len, hlb.len, line_eq]; exact hz, ?_⟩
          exact h F1 σ _ s1 (r1.mut (of_decide_eq_true hi) he1 es (hl1.app hlb))
        · exact h.elim
/-- x[i] = e -/
def sSetI (i : Nat) (g f : Ev → R D) : Ev → Out := fun env => sOf (f env) fun d => match lstOf (Ev.get env i) with
  | none => .bad
  | some l => sOf (g env) fun j => match j with
    | .int z => (match ixN l.length z with
      | some n => .nx (Ev.set env i (.lst (l.set n d)))
      | none => .bad)
    | _ => .bad
theorem sm_setI (C : CxOk X G N k E) (i : Nat) {ix : Expr} {g f : Ev → R D} (hi : decide (i ∈ O) = true) (hN : N[i]? = some x) (hv : ∀ j, Vis (X j).env.scope x) (hg : EM X G E false O ix g) (he : EM X G E true O e f) (hd : (x == ("__debug__" : Str)) = false := by decide) (hcd : (x == ("__classdict__" : Str)) = false := by decide)
    (ha : ∀ j v, assign (.Subscript (.Name x p) ix cpos) (X j).env v = (do
      let ov ← holding [v] (eval (.Name x p) (X j).env)
      let iv ← holding [v, ov] (eval ix (X j).env)
      standAt cpos
      holding [v, ov, iv] (setItem ov iv v)
      release [v, ov, iv] []) := by intro _ _; rfl)
    (hs : ∀ j, swapsWithSole [.Subscript (.Name x p) ix cpos] e pos.line (X j).env = pure false := by intro _; rfl) (hw : ∀ j, swappedStores [.Subscript (.Name x p) ix cpos] e (X j).env = pure none := by intro _; rfl)
    (h1 : ∀ j, (assignEach [.Subscript (.Name x p) ix cpos] (X j).env).map (·.2) = [assign (.Subscript (.Name x p) ix cpos) (X j).env] := by intro _; rfl) :
    SM X G E own O O (.Assign [.Subscript (.Name x p) ix cpos] e pos) (sSetI i g f) := by
  obtain ⟨t, ht, rd⟩ := he.ex
  obtain ⟨u, hu, rd2⟩ := hg.ex
  refine ⟨tAsg t (gSub (tVar i) u rSetL), fun j => ps_asg (ht j) (pg_sub (pe_var (i := i) (pos := p) (by rw [C.eN j]; exact hN) (hv j) hd hcd) (hu j) set_list (ha j)) (hs j) (hw j) (h1 j), fun F0 H0 F σ H env D rl h => ?_⟩
  refine rd F0 H0 F σ H env _ rl (SPost.of rl h fun d v F1 H1 e1 r1 h1' => ?_)
  have rl1 := rl.grow e1
  cases hset : Ev.get env i with
  | none =>
    rw [hset] at h1'
    exact h1'.elim
  | some d0 =>
    rw [hset] at h1'
    obtain ⟨a, xs, l, rfl, es, hH, hF, h0, hl⟩ := own_at rl1 (of_decide_eq_true hi) hset
    refine ⟨_, es, rd2 F0 H0 F1 σ H1 env _ rl1 (SPost.of rl1 h1' fun z w F2 H2 e2 r2 h2 => ?_)⟩
    cases z <;> first | exact h2.elim | skip
    cases r2
    simp only at h2
    cases hix : ixN l.length _ with
    | none => rw [hix] at h2; exact h2.elim
    | some n =>
      rw [hix] at h2
      refine ⟨a, xs, _, n, rfl, rfl, e2.h _ _ hH, by rw [hl.len]; exact hix, ?_⟩
      exact h2 F2 σ _ (.refl _) ((rl1.grow e2).mut (of_decide_eq_true hi) hset es ((hl.mono e2.f).set (r1.mono e2.f _ _) n))
end
end
end G81

/-! Defs, built-ins. -/
namespace G81
open PySem PySem.Spec PyProof.Rows L2

/-! ### defs -/
def startE (N : List Str) (ds : List D) : Ev := ds.map some ++ List.replicate (N.length - ds.length) none
@[simp] def toR (own : Bool) : Out → R D
  | .nx _ => if own then .bad else .ok .non
  | .rt d => .ok d
  | .er c => .err c
  | .bad => .bad
theorem startE_get : ∀ (ds : List D) (n i : Nat) (d : D), Ev.get (ds.map some ++ List.replicate n none) i = some d → ds[i]? = some d
  | [], n, i, d, h => by
    exfalso
    have : ∀ n i, Ev.get (List.replicate n (none : Option D)) i = none := by
      intro n
      induction n with
      | zero => intro i; rfl
      | succ n ih => intro i; cases i with | zero => rfl | succ i => exact ih i
    rw [List.map_nil, List.nil_append, this] at h
    cases h
  | x :: ds, n, 0, d, h => by simpa [Ev.get] using h
  | x :: ds, n, i + 1, d, h => by
    have := startE_get ds n i d (by simpa [Ev.get] using h)
    simpa using this
theorem rel_start {G : Gx} {N : List Str} {F H : Hp} {ds : List D} {vs : List V} (i : Same F H) (h : RepL G F ds vs) : Rel G F H [] F (L2.start N vs) H (startE N ds) := by
  refine ⟨by unfold L2.start startE; simp [h.len], .refl i, fun j d hd => ?_, fun j k d e a hj => absurd hj (by simp)⟩
  have hd' := startE_get ds _ j d hd
  obtain ⟨v, hv, rv⟩ := h.get hd'
  refine ⟨v, ?_, fun _ => rv, fun z => absurd z (by simp)⟩
  unfold L2.start
  have hlt : j < (vs.map some).length := by rw [List.length_map]; exact (List.getElem?_eq_some_iff.mp hv).1
  rw [List.getElem?_append_left hlt, List.getElem?_map, hv]
  rfl
abbrev cxU (G : Gx) (N : List Str) (qual : Str) (sc : Scope) (f : Addr) (cdv : Value) (A : Around) (outer : List Env) (s : Shared) (H : Hp) (E : XK) : Unit → Cx :=
  fun _ => cxOf (L2.CX G.P G.w) G.P G.w G.K G.mg G.base N qual sc f cdv A outer s H E
theorem sx_mk {G : Gx} [Calm G] {N : List Str} {qual : Str} {sc : Scope} {f : Addr} {cdv : Value} {A : Around} {outer : List Env} {s : Shared} {H : Hp} {E : XK} {k : Nat} (nd : N.Nodup) (hr : Room k (A.deeper (envOfC qual sc s.heap.objs.size f cdv))) :
    SxOk (cxU G N qual sc f cdv A outer s H E) G N k E := by
  have tk : Takes (cxU G N qual sc f cdv A outer s H E ()) (fun c d _ H => E c d H) := takes_of rfl rfl rfl rfl
  exact ⟨⟨nd, fun _ => rfl, fun _ => rfl, fun _ => rfl, fun _ => rfl, fun _ => rfl, fun _ => rfl, fun _ _ => rfl, fun _ _ => hr, fun _ => by have := hr.un; show (A.deeper _).units + 65 < _; omega, fun _ a c h => absurd h (Calm.e a c), fun _ => passes_call tk fun _ _ _ _ h => h⟩, fun _ => passes_of rfl, fun _ => tk⟩
theorem fn_ok {G : Gx} [Calm G] {x qual : Str} {st : Stmt} {f : Addr} {fd : FuncData} {N ps : List Str} {k n : Nat} {own : Bool} {O' : List Nat} {fb : Ev → Out} (F : Fun G.K x qual st f fd) (Sc : FnScope N ps (defScope st)) (hn : ps.length = n) (hb : Binds G.K fd ps []) (hm : G.mg x = some (.ref f))
    (body : ∀ (cdv : Value) (A : Around) (outer : List Env) (s : Shared) (H : Hp) (E : XK), SxOk (cxU G N qual (defScope st) f cdv A outer s H E) G N k E → BM (cxU G N qual (defScope st) f cdv A outer s H E) G E own [] O' (defBody st) fb) :
    FnM G (k + 1) x n own (fun ds => toR own (fb (startE N ds))) := by
  refine ⟨f, fd, ps, F.okX Sc (fun vs H Q E h => ?_) (fun cdv A outer s H vs Q E hr h => ?_), hm, F.kp, hb, hn⟩
  · obtain ⟨_, _, _, h, _⟩ := h
    rw [h, hn]
  · obtain ⟨F1, ds, i, hl, hr', hp⟩ := h
    obtain ⟨t, ht, rd⟩ := (body cdv A outer s H E (sx_mk Sc.nd hr)).ex
    refine ⟨t, ht (), rd F1 H F1 (L2.start N vs) H (startE N ds) _ (rel_start i hr') ?_⟩
    have hp : PostG G E (relF G own) F1 H (toR own (fb (startE N ds))) Q := hp
    cases hf : fb (startE N ds) with
    | nx e =>
      rw [hf] at hp
      cases own with
      | true => exact hp.elim
      | false => exact fun F' σ' H' s' r' => hp .non F' H' r'.ext rfl
    | rt d => rw [hf] at hp; exact fun v F' H' e rv => hp v F' H' e rv
    | er c => rw [hf] at hp; exact hp
    | bad => rw [hf] at hp; exact hp
/-- what one's own says of a def -/
theorem FnM.of {G : Gx} {k n : Nat} {x : Str} {own : Bool} {g g' : List D → R D} (h : FnM G k x n own g) (hg : ∀ ds, g' ds ≠ .bad → g ds = g' ds) : FnM G k x n own g' := by
  obtain ⟨f, fd, ps, ok, r⟩ := h.ex
  refine ⟨f, fd, ps, ok.imp fun vs H Q E h => ?_, r⟩
  obtain ⟨F, ds, h1, h2, h3, h4⟩ := h
  refine ⟨F, ds, h1, h2, h3, ?_⟩
  cases hb : g' ds with
  | bad => rw [hb] at h4; exact h4.elim
  | ok d => rw [hg ds (by rw [hb]; simp), hb]; rw [hb] at h4; exact h4
  | err c => rw [hg ds (by rw [hb]; simp), hb]; rw [hb] at h4; exact h4
theorem FnM.mono {G : Gx} {k k' n : Nat} {x : Str} {own : Bool} {g : List D → R D} (h : FnM G k x n own g) (hk : k ≤ k') : FnM G k' x n own g := by
  obtain ⟨f, fd, ps, ok, r⟩ := h.ex
  exact ⟨f, fd, ps, ok.mono hk, r⟩

/-! ### y = [..] -/
section
variable {ι : Type} {X : ι → Cx} {G : Gx} {E : XK} {N : List Str} {k : Nat} {b own : Bool} {O O' O1 : List Nat} {pos : Pos}
theorem sm_setLc [Calm G] {i : Nat} {y : Str} {py cpos : Pos} {elt tg iter : Expr} {ifs : List Expr} {scope : Scope} {ow : List (Str × Nat)} {g : Ev → R (List D)} {tgt : D → Ev → R Ev} {tst : Ev → R Bool} {fe : Ev → R D} (C : CxOk X G N k E) (hO : ∀ j, j ∈ O1 ↔ j ∈ O ∧ j ∉ ow.map (·.2))
    (hN : N[i]? = some y) (hyl : ∀ j, (X j).env.scope.names.lookup y = some .local) (hsw : ∀ j, swapsWith (.ListComp elt [⟨tg, iter, ifs, 0⟩] scope cpos) (some (.Name y py)) pos.line (X j).env = pure true)
    (hi : IM X G E b true O tg iter g) (ok : ∀ i, BlkOk (X i).N (X i).env.scope scope ow)
    (hg : GM (blkF X scope) G O1 (ow.map (·.2)) tg tgt) (ht : TsM (blkF X scope) G E0 O1 ifs tst) (he : EM (blkF X scope) G E0 true O1 elt fe) (h1 : ∀ j, j ∈ O' ↔ j = i ∨ j ∈ O) (hs : ∀ i x, foldedSetIterable iter (X i).env x = pure x := by intro _ _; rfl) :
    SM X G E own O O' (.Assign [.Name y py] (.ListComp elt [⟨tg, iter, ifs, 0⟩] scope cpos) pos) (sSet i (eLc (ow.map (·.2)) g tgt tst fe)) := by
  obtain ⟨ti, pi, ri⟩ := hi.ex
  obtain ⟨tG, pg, rg⟩ := hg.ex
  obtain ⟨tT, pt, rt⟩ := ht.ex
  obtain ⟨tE, pe, re⟩ := he.ex
  refine ⟨tAsg (tLc ti tG tT tE (ow.map (·.2))) (gName i), fun j => ps_setLc (C.calm j) (by rw [C.eN j]; exact C.nd) (by rw [C.eN j]; exact hN) (hyl j) (hsw j) (pi j) (ok j) (fun s H C cl fp => pg (j, ⟨s, H, C, cl, fp⟩)) (fun s H C cl fp => pt (j, ⟨s, H, C, cl, fp⟩)) (fun s H C cl fp => pe (j, ⟨s, H, C, cl, fp⟩)) (hs j), fun F0 H0 F σ H env D rl h => ?_⟩
  refine lc_read (elt := elt) (tg := tg) (iter := iter) (ifs := ifs) (scope := scope) hO ri rg rt re F0 H0 F σ H env _ rl (SPost.of rl h fun d v F1 H1 e1 r1 h1' => ?_)
  obtain ⟨a, xs, l, rfl, rfl, q0, q1, q2, q3⟩ := r1
  exact h1' F1 _ H1 (.refl _) ((rl.grow e1).putO (rl.ext.h.free q0) q1 q2 q3 (fun j d hj _ hd => own_ne rl hj hd q0) h1)

/-! ### built-ins -/
structure CaM {ι : Type} (X : ι → Cx) (G : Gx) (E : XK) (m m' : Bool) (f : Value) (op : List D → R D) : Prop where
  ex : ∃ r, (∀ i, CallR (X i) f r) ∧ ∀ F H vs ds Q, Same F H → RepL G (wd m F H) ds vs → Post G E m' F H (op ds) Q → r vs H Q
structure CaO {ι : Type} (X : ι → Cx) (G : Gx) (E : XK) (f : Value) (op : List D → R D) : Prop where
  ex : ∃ r, (∀ i, CallR (X i) f r) ∧ ∀ F H vs ds Q, Same F H → RepL G F ds vs → PostO G E F H (op ds) Q → r vs H Q
variable {m m' : Bool} {e : Expr} {es : List Expr} {x : Str} {p : Pos} {id T : String} {op : List D → R D} {fa : Ev → R (List D)}
theorem em_callB (C : CxOk X G N k E) (hc : CaM X G E m m' (.builtin id) op) (hg : ∀ i, Gl (X i) x) (hm : G.mg x = none) (hv : bootBuiltins x = some (.builtin id)) (ha : AM X G E m O (e :: es) fa) (hn : x ≠ "__name__" := by decide) (hdb : (x == ("__debug__" : Str)) = false := by decide)
    (he : ∀ i, starEach (e :: es) (X i).env = (false, eval e (X i).env) :: starEach es (X i).env := by intro _; rfl) (hpl : ∀ i, (backTo pos (starEach es (X i).env)).any (·.1) = false := by intro _; rfl) : EM X G E m' O (.Call (.Name x p) (e :: es) [] pos) (eCall op fa) := by
  obtain ⟨r, hr, rd⟩ := hc.ex
  obtain ⟨t, ht, rd2⟩ := ha.ex
  refine ⟨tCB r t, fun i => pe_callB (hr i) (hg i) (by rw [C.emg i]; exact hm) hv (ht i) hn hdb (he i) (hpl i), fun F0 H0 F σ H env Q rl h => rd2 F0 H0 F σ H env _ rl (PostG.bind antiM h fun ds vs F1 H1 e1 r1 h1 => ?_)⟩
  exact rd F1 H1 vs ds Q e1.i r1 h1
theorem em_callT (C : CxOk X G N k E) (hc : CaM X G E m m' (.type T) op) (hg : ∀ i, Gl (X i) x) (hm : G.mg x = none) (hv : bootBuiltins x = some (.type T)) (ha : AM X G E m O (e :: es) fa) (hn : x ≠ "__name__" := by decide) (hdb : (x == ("__debug__" : Str)) = false := by decide)
    (he : ∀ i, starEach (e :: es) (X i).env = (false, eval e (X i).env) :: starEach es (X i).env := by intro _; rfl) (hpl : ∀ i, (backTo pos (starEach es (X i).env)).any (·.1) = false := by intro _; rfl) : EM X G E m' O (.Call (.Name x p) (e :: es) [] pos) (eCall op fa) := by
  obtain ⟨r, hr, rd⟩ := hc.ex
  obtain ⟨t, ht, rd2⟩ := ha.ex
  refine ⟨tCB r t, fun i => pe_callTy (hr i) (hg i) (by rw [C.emg i]; exact hm) hv (ht i) hn hdb (he i) (hpl i), fun F0 H0 F σ H env Q rl h => rd2 F0 H0 F σ H env _ rl (PostG.bind antiM h fun ds vs F1 H1 e1 r1 h1 => ?_)⟩
  exact rd F1 H1 vs ds Q e1.i r1 h1
theorem eo_callT (C : CxOk X G N k E) (hc : CaO X G E (.type T) op) (hg : ∀ i, Gl (X i) x) (hm : G.mg x = none) (hv : bootBuiltins x = some (.type T)) (ha : AM X G E true O (e :: es) fa) (hn : x ≠ "__name__" := by decide) (hdb : (x == ("__debug__" : Str)) = false := by decide)
    (he : ∀ i, starEach (e :: es) (X i).env = (false, eval e (X i).env) :: starEach es (X i).env := by intro _; rfl) (hpl : ∀ i, (backTo pos (starEach es (X i).env)).any (·.1) = false := by intro _; rfl) : EO X G E O (.Call (.Name x p) (e :: es) [] pos) (eCall op fa) := by
  obtain ⟨r, hr, rd⟩ := hc.ex
  obtain ⟨t, ht, rd2⟩ := ha.ex
  refine ⟨tCB r t, fun i => pe_callTy (hr i) (hg i) (by rw [C.emg i]; exact hm) hv (ht i) hn hdb (he i) (hpl i), fun F0 H0 F σ H env Q rl h => rd2 F0 H0 F σ H env _ rl (PostG.bind antiO h fun ds vs F1 H1 e1 r1 h1 => ?_)⟩
  exact rd F1 H1 vs ds Q e1.i r1 h1
theorem eo_callB (C : CxOk X G N k E) (hc : CaO X G E (.builtin id) op) (hg : ∀ i, Gl (X i) x) (hm : G.mg x = none) (hv : bootBuiltins x = some (.builtin id)) (ha : AM X G E true O (e :: es) fa) (hn : x ≠ "__name__" := by decide) (hdb : (x == ("__debug__" : Str)) = false := by decide)
    (he : ∀ i, starEach (e :: es) (X i).env = (false, eval e (X i).env) :: starEach es (X i).env := by intro _; rfl) (hpl : ∀ i, (backTo pos (starEach es (X i).env)).any (·.1) = false := by intro _; rfl) : EO X G E O (.Call (.Name x p) (e :: es) [] pos) (eCall op fa) := by
  obtain ⟨r, hr, rd⟩ := hc.ex
  obtain ⟨t, ht, rd2⟩ := ha.ex
  refine ⟨tCB r t, fun i => pe_callB (hr i) (hg i) (by rw [C.emg i]; exact hm) hv (ht i) hn hdb (he i) (hpl i), fun F0 H0 F σ H env Q rl h => rd2 F0 H0 F σ H env _ rl (PostG.bind antiO h fun ds vs F1 H1 e1 r1 h1 => ?_)⟩
  exact rd F1 H1 vs ds Q e1.i r1 h1
/-- len -/
@[simp] def dLen : List D → R D
  | [.lst l] => .ok (.int l.length)
  | [.tup l] => .ok (.int l.length)
  | [.scr l] => .ok (.int l.length)
  | [.str s] => if s.length ≤ line then .ok (.int s.length) else .bad
  | _ => .bad
theorem ca_len (C : CxOk X G N k E) : CaM X G E false m' (.builtin "len") dLen := by
  refine ⟨_, fun i => by have q := call_len (X := X i); rw [C.eK i] at q; exact q, fun F H vs ds Q s rv h => ?_⟩
  unfold dLen at h
  split at h
  · obtain ⟨v, rfl, a, xs, rfl, q1, q2⟩ := repL1 rv
    exact ⟨_, xs.length, rfl, .inl ⟨xs, .inl (.inl q1), rfl⟩, by rw [q2.len]; exact h _ F H (.refl s) rfl⟩
  · obtain ⟨v, rfl, a, xs, rfl, q1, q2⟩ := repL1 rv
    exact ⟨_, xs.length, rfl, .inr ⟨xs, q1, rfl⟩, by rw [q2.len]; exact h _ F H (.refl s) rfl⟩
  · obtain ⟨v, rfl, a, rfl, q1⟩ := repL1 rv
    exact ⟨_, _, rfl, .inl ⟨_, q1, rfl⟩, by rw [List.length_map]; exact h _ F H (.refl s) rfl⟩
  · obtain ⟨v, rfl, q1⟩ := repL1 rv
    cases q1
    split at h
    · rename_i hz
      exact ⟨_, _, rfl, ⟨by rw [str_len, line_eq]; exact hz, rfl⟩, by rw [str_len]; exact h _ F H (.refl s) rfl⟩
    · exact h.elim
  · exact h.elim
/-- int of an int or a truth -/
@[simp] def dInt : List D → R D
  | [.int i] => .ok (.int i)
  | [.bl b] => .ok (.int (if b then 1 else 0))
  | _ => .bad
theorem ca_int : CaM X G E false m' (.type "int") dInt := by
  refine ⟨_, fun i => call_int1, fun F H vs ds Q s rv h => ?_⟩
  unfold dInt at h
  split at h
  · obtain ⟨v, rfl, q⟩ := repL1 rv; cases q
    exact .inl ⟨_, rfl, h _ F H (.refl s) rfl⟩
  · obtain ⟨v, rfl, q⟩ := repL1 rv; cases q
    exact .inr ⟨_, rfl, h _ F H (.refl s) rfl⟩
  · exact h.elim
/-- tuple of a list, of a tuple -/
@[simp] def dTuple : List D → R D
  | [.lst l] => .ok (.tup l)
  | [.tup l] => .ok (.tup l)
  | _ => .bad
theorem ca_tuple (C : CxOk X G N k E) : CaM X G E m m (.type "tuple") dTuple := by
  refine ⟨_, fun i => by have q := call_tuple_of (X := X i); rw [C.eK i] at q; exact q, fun F H vs ds Q s rv h => ?_⟩
  unfold dTuple at h
  split at h
  · obtain ⟨v, rfl, q⟩ := repL1 rv
    obtain ⟨a, xs, rfl, h1, h2, h3⟩ := rep_lst s q
    exact ⟨a, xs, rfl, .inl ⟨.inl (.inl h1), fun p hp => post_new h s hp ⟨p, _, rfl, .inl (.inl upd_same), h3.mono (same_upd' ((wd_sub s).free hp))⟩⟩⟩
  · obtain ⟨v, rfl, q⟩ := repL1 rv
    obtain ⟨a, xs, rfl, h1, h2, h3⟩ := rep_tup s q
    exact ⟨a, xs, rfl, .inr ⟨h1, h _ F H (.refl s) ⟨a, xs, rfl, h2, h3⟩⟩⟩
  · exact h.elim
/-- list of a list, a tuple, a text -/
@[simp] def dList : List D → R D
  | [.lst l] => .ok (.lst l)
  | [.tup l] => .ok (.lst l)
  | [.str s] => if s.length ≤ line then .ok (.lst (s.map fun c => .str [c])) else .bad
  | _ => .bad
theorem call_listS {Y : Cx} (hc : Y.calm = true) : CallR Y (.type "list") (fun xs H Q => ∃ s : List Char, xs = [.str (mkS s)] ∧ s.length ≤ sizeLine ∧ ∀ p, H p = none → Q (.ref p) (upd H p (.lst (s.map fun c => V.str (mkS [c]))))) := by
  intro pins s σ H xs us Q I r h
  obtain ⟨z, rfl, hz, q⟩ := h
  obtain ⟨u, rfl, ru⟩ := vals1 r
  obtain ⟨t, rfl⟩ := ru
  refine PySem.call_list_str (I.ok.hd hc) _ t (fun h' tk acc' c' hk ho hi => ?_) (by show (z.map Char.toNat).toArray.size ≤ _; rw [List.size_toArray, List.length_map]; exact hz)
  have hlen : acc'.size = z.length := by rw [hi.1]; show (z.map Char.toNat).toArray.size = _; rw [List.size_toArray, List.length_map]
  have hv : Vals (z.map fun c => V.str (mkS [c])) acc'.toList := by
    refine vals_of_at (by simp [hlen]) fun j y w e1 e2 => ?_
    rw [List.getElem?_map] at e1
    cases q1 : z[j]? with
    | none => rw [q1] at e1; cases e1
    | some c =>
      rw [q1] at e1
      cases e1
      have := hi.2 j w (by simpa using e2)
      obtain ⟨c2, t2, h1, h2⟩ := this
      have h1 : (z.map Char.toNat).toArray[j]? = some c2 := h1
      rw [List.getElem?_toArray, List.getElem?_map, q1] at h1
      cases h1
      exact ⟨t2, h2⟩
  refine ⟨.ref s.heap.objs.size, _, I.laid (o := .lst (z.map fun c => V.str (mkS [c]))) (t' := tk) hk (Nat.le_refl _) ⟨by rw [List.length_map]; exact hz, acc'.toList, c', hv, by simpa using ho⟩, rfl, q _ (I.hok.fresh (Nat.le_refl _))⟩
theorem ca_list [Calm G] (C : CxOk X G N k E) : CaO X G E (.type "list") dList := by
  refine ⟨_, fun i => (show CallR (X i) (.type "list") (fun xs H Q => (∃ p ys, xs = [.ref p] ∧ (SqL G.K H p ys ∨ SqT G.K H p ys) ∧ ∀ l, H l = none → Q (.ref l) (upd H l (.lst ys))) ∨ (∃ s : List Char, xs = [.str (mkS s)] ∧ s.length ≤ sizeLine ∧ ∀ p, H p = none → Q (.ref p) (upd H p (.lst (s.map fun c => V.str (mkS [c])))))) from
    fun pins s σ H xs us Q I r h => by
      have q := call_list_of (X := X i)
      rw [C.eK i] at q
      exact h.elim (q pins s σ H xs us Q I r) (call_listS (C.calm i) pins s σ H xs us Q I r)), fun F H vs ds Q s rv h => ?_⟩
  unfold dList at h
  split at h
  · obtain ⟨v, rfl, a, xs, rfl, q1, q2⟩ := repL1 rv
    exact .inl ⟨a, xs, rfl, .inl (.inl (.inl (s _ _ q1))), fun p hp => h _ F _ (.own s hp) ⟨p, xs, _, rfl, rfl, hp, s.free hp, upd_same, q2⟩⟩
  · obtain ⟨v, rfl, a, xs, rfl, q1, q2⟩ := repL1 rv
    exact .inl ⟨a, xs, rfl, .inr (same_sqT s q1), fun p hp => h _ F _ (.own s hp) ⟨p, xs, _, rfl, rfl, hp, s.free hp, upd_same, q2⟩⟩
  · obtain ⟨v, rfl, q1⟩ := repL1 rv
    cases q1
    split at h
    · rename_i z hz
      refine .inr ⟨z, rfl, by rw [line_eq]; exact hz, fun p hp => h _ F _ (.own s hp) ⟨p, _, _, rfl, rfl, hp, s.free hp, upd_same, ?_⟩⟩
      have go : ∀ z : List Char, RepL G F (z.map fun c => D.str [c]) (z.map fun c => V.str (mkS [c])) := by
        intro z
        induction z with
        | nil => rfl
        | cons c z ih => exact ⟨_, _, rfl, rfl, ih⟩
      exact go z
    · exact h.elim
  · exact h.elim
end
end G81

/-! Built-ins, methods of texts. -/
namespace G81
open PySem PySem.Spec PyProof.Rows L2

section
variable {ι : Type} {X : ι → Cx} {G : Gx} {E : XK} {N : List Str} {k : Nat} {b own m m' : Bool} {O O' O1 : List Nat} {pos : Pos} {e a : Expr} {fe fa : Ev → R D} {p apos p1 p2 : Pos}

/-! ### isinstance -/
inductive Ty5 where
  | int | str | bool | tuple | list
def Ty5.nm : Ty5 → String
  | .int => "int"
  | .str => "str"
  | .bool => "bool"
  | .tuple => "tuple"
  | .list => "list"
@[simp] def isT : Ty5 → D → R D
  | .int, .int _ => .ok (.bl true)
  | .int, .bl _ => .ok (.bl true)
  | .bool, .bl _ => .ok (.bl true)
  | .str, .str _ => .ok (.bl true)
  | .tuple, .tup _ => .ok (.bl true)
  | .list, .lst _ => .ok (.bl true)
  | .list, .scr _ => .ok (.bl true)
  | _, .dic _ _ => .bad
  | _, .exc _ => .bad
  | _, .fn _ => .bad
  | _, _ => .ok (.bl false)
@[simp] def eIsi (T : Ty5) (f : Ev → R D) : Ev → R D := fun env => (f env).bind (isT T)
theorem kit_all : ∀ T : Ty5, kitB "NoneType" T.nm = some false ∧ kitB "bool" T.nm = some (match T with | .int => true | .bool => true | _ => false) ∧ kitB "int" T.nm = some (match T with | .int => true | _ => false) ∧
    kitB "str" T.nm = some (match T with | .str => true | _ => false) ∧ kitB "list" T.nm = some (match T with | .list => true | _ => false) ∧ kitB "tuple" T.nm = some (match T with | .tuple => true | _ => false) := by
  intro T
  cases T <;> decide +kernel
theorem tup_ty {H : Hp} {q : Addr} {xs : List V} (h : SqT G.K H q xs) : TyX G.K H (.ref q) (.type "tuple") := by
  rcases h with (h | ⟨o, h⟩) | ⟨o, its, n, h, hc, _⟩
  · exact .base (.tup h)
  · exact .fTuple h
  · exact .kTuple h hc
theorem lst_ty {H : Hp} {q : Addr} {xs : List V} (h : SqL G.K H q xs) : TyX G.K H (.ref q) (.type "list") := by
  rcases h with (h | ⟨o, h⟩) | ⟨o, its, n, h, hc, _⟩
  · exact .base (.lst h)
  · exact .base (.frz h)
  · exact .kList h hc
theorem isT_ty {H : Hp} {T : Ty5} {d : D} {v : V} {r : D} (hr : Rep G H d v) (h : isT T d = .ok r) : ∃ t b, TyX G.K H v (.type t) ∧ kitB t T.nm = some b ∧ r = .bl b := by
  obtain ⟨k0, k1, k2, k3, k4, k5⟩ := kit_all T
  cases d with
  | non => cases hr; exact ⟨_, _, .base .non, k0, by cases T <;> (cases h; rfl)⟩
  | bl b => cases hr; exact ⟨_, _, .base (.bl b), k1, by cases T <;> (cases h; rfl)⟩
  | int b => cases hr; exact ⟨_, _, .base (.int b), k2, by cases T <;> (cases h; rfl)⟩
  | str b => cases hr; exact ⟨_, _, .base (.str _), k3, by cases T <;> (cases h; rfl)⟩
  | lst l => obtain ⟨q, xs, rfl, h1, h2⟩ := hr; exact ⟨_, _, .base (.lst h1), k4, by cases T <;> (cases h; rfl)⟩
  | tup l => obtain ⟨q, xs, rfl, h1, h2⟩ := hr; exact ⟨_, _, tup_ty h1, k5, by cases T <;> (cases h; rfl)⟩
  | scr l => obtain ⟨q, rfl, h1⟩ := hr; exact ⟨_, _, lst_ty h1, k4, by cases T <;> (cases h; rfl)⟩
  | dic _ _ => cases T <;> cases h
  | exc _ => cases T <;> cases h
  | fn _ => cases T <;> cases h
theorem em_isi {y : Str} (C : CxOk X G N k E) (T : Ty5) (hg : ∀ i, Gl (X i) "isinstance") (hm : G.mg "isinstance" = none) (hg2 : ∀ i, Gl (X i) y) (hm2 : G.mg y = none) (hv2 : bootBuiltins y = some (.type T.nm)) (ha : EM X G E false O a fa) (hn2 : y ≠ "__name__" := by decide) (hdb2 : (y == ("__debug__" : Str)) = false := by decide)
    (he : ∀ i, starEach [a, .Name y p2] (X i).env = (false, eval a (X i).env) :: starEach [.Name y p2] (X i).env := by intro _; rfl) (he2 : ∀ i, starEach [.Name y p2] (X i).env = (false, eval (.Name y p2) (X i).env) :: starEach [] (X i).env := by intro _; rfl) (hpl : ∀ i, (backTo pos (starEach [.Name y p2] (X i).env)).any (·.1) = false := by intro _; rfl) :
    EM X G E m O (.Call (.Name "isinstance" p1) [a, .Name y p2] [] pos) (eIsi T fa) := by
  obtain ⟨ta, pa, ra⟩ := ha.ex
  refine ⟨tCB (rIsi G.K) (tCons ta (tCons (tC (.ty T.nm)) tNil)), fun i => pe_callB (by have q := call_isi (X := X i); rw [C.eK i] at q; exact q) (hg i) (by rw [C.emg i]; exact hm) (by decide +kernel)
    (pa_cons (pa i) (pa_cons (pe_bltn (v := .ty T.nm) (hg2 i) (by rw [C.emg i]; exact hm2) hv2 rfl hn2 hdb2) pa_nil (he2 i)) (he i)) (by decide) (by decide) (he i) (hpl i), fun F0 H0 F σ H env Q rl h => ?_⟩
  refine ra F0 H0 F σ H env _ rl (PostG.bind antiM h fun d v F1 H1 e1 r1 h1 => ?_)
  cases hi : isT T d with
  | err c => rw [hi] at h1; exact absurd hi (by cases T <;> cases d <;> simp [isT])
  | bad => rw [hi] at h1; exact h1.elim
  | ok r =>
    rw [hi] at h1
    obtain ⟨t, b, q1, q2, rfl⟩ := isT_ty r1 hi
    exact ⟨v, .ty T.nm, .type t, .type T.nm, b, rfl, .ty _, q1, kit_ty q2, h1 _ F1 H1 (.refl e1.i) rfl⟩

/-! ### list(range(..)) -/
noncomputable def dListRg : List D → R D
  | [.int j] => if big62 j ∧ j.toNat ≤ line then .ok (.lst (rgD 0 j.toNat)) else .bad
  | [.int i, .int j] => if big62 i ∧ big62 j ∧ (j - i).toNat ≤ line then .ok (.lst (rgD i (j - i).toNat)) else .bad
  | _ => .bad
theorem rep_rgV {F : Hp} (i j : Int) : RepL G F (rgD i (j - i).toNat) (rgV i j) := by
  unfold rgD rgV
  generalize List.range (j - i).toNat = l
  induction l with
  | nil => rfl
  | cons n l ih => exact ⟨_, _, rfl, rfl, ih⟩
theorem eo_listRg1 [Calm G] (C : CxOk X G N k E) (hg : ∀ i, Gl (X i) "list") (hm : G.mg "list" = none) (hg2 : ∀ i, Gl (X i) "range") (hm2 : G.mg "range" = none) (ha : EM X G E false O a fa)
    (na : ∀ i, starEach [.Call (.Name "range" p1) [a] [] p2] (X i).env = (false, eval (.Call (.Name "range" p1) [a] [] p2) (X i).env) :: starEach [] (X i).env := by intro _; rfl)
    (na2 : ∀ i, starEach [a] (X i).env = (false, eval a (X i).env) :: starEach [] (X i).env := by intro _; rfl) :
    EO X G E O (.Call (.Name "list" p) [.Call (.Name "range" p1) [a] [] p2] [] pos) (eCall dListRg (aCons fa aNil)) := by
  obtain ⟨ta, pa, ra⟩ := ha.ex
  refine ⟨tLstRg (tRg1 ta), fun i => pe_listRg (C.calm i) (hg i) (by rw [C.emg i]; exact hm) (prg_1 (hg2 i) (by rw [C.emg i]; exact hm2) (pa i) (na2 i)) (na i), fun F0 H0 F σ H env Q rl h => ?_⟩
  unfold eCall aCons at h
  cases hf : fa env with
  | bad => rw [hf] at h; exact h.elim
  | err c => rw [hf] at h; exact ra F0 H0 F σ H env _ rl (by rw [hf]; exact h)
  | ok d =>
    rw [hf] at h
    refine ra F0 H0 F σ H env _ rl (post_ok hf fun v F1 H1 e1 r1 => ?_)
    have h1 := PostG.grow antiO (show PostO G E F H (dListRg [d]) Q from h) e1
    cases d <;> first | exact h1.elim | skip
    cases r1
    rename_i j
    simp only [dListRg] at h1
    split at h1
    · rename_i hz
      have hs : (sizeLine : Nat) = 2 ^ 24 := by rw [sizeLine_eq]
      refine ⟨j, rfl, ⟨by omega, by omega, hz.1.1, hz.1.2, by have := hz.2; unfold line at this; omega⟩, fun q hq => h1 _ F1 _ (.own e1.i hq) ⟨q, _, _, rfl, rfl, hq, e1.i.free hq, upd_same, ?_⟩⟩
      have := rep_rgV (G := G) (F := F1) 0 j
      rw [Int.sub_zero] at this
      exact this
    · exact h1.elim
theorem eo_listRg2 [Calm G] {bb : Expr} {fb : Ev → R D} (C : CxOk X G N k E) (hg : ∀ i, Gl (X i) "list") (hm : G.mg "list" = none) (hg2 : ∀ i, Gl (X i) "range") (hm2 : G.mg "range" = none) (ha : EM X G E false O a fa) (hb : EM X G E false O bb fb)
    (na : ∀ i, starEach [.Call (.Name "range" p1) [a, bb] [] p2] (X i).env = (false, eval (.Call (.Name "range" p1) [a, bb] [] p2) (X i).env) :: starEach [] (X i).env := by intro _; rfl)
    (na2 : ∀ i, starEach [a, bb] (X i).env = (false, eval a (X i).env) :: starEach [bb] (X i).env := by intro _; rfl) (na3 : ∀ i, starEach [bb] (X i).env = (false, eval bb (X i).env) :: starEach [] (X i).env := by intro _; rfl) :
    EO X G E O (.Call (.Name "list" p) [.Call (.Name "range" p1) [a, bb] [] p2] [] pos) (eCall dListRg (aCons fa (aCons fb aNil))) := by
  obtain ⟨ta, pa, ra⟩ := ha.ex
  obtain ⟨tb, pb, rb⟩ := hb.ex
  refine ⟨tLstRg (tRg2 ta tb), fun i => pe_listRg (C.calm i) (hg i) (by rw [C.emg i]; exact hm) (prg_2 (hg2 i) (by rw [C.emg i]; exact hm2) (pa i) (pb i) (na2 i) (na3 i) (by rw [na3 i]; rfl)) (na i), fun F0 H0 F σ H env Q rl h => ?_⟩
  unfold eCall aCons at h
  cases hf : fa env with
  | bad => rw [hf] at h; exact h.elim
  | err c => rw [hf] at h; exact ra F0 H0 F σ H env _ rl (by rw [hf]; exact h)
  | ok d =>
    rw [hf] at h
    refine ra F0 H0 F σ H env _ rl (post_ok hf fun v F1 H1 e1 r1 => ?_)
    cases hf2 : fb env with
    | bad => rw [hf2] at h; exact h.elim
    | err c => rw [hf2] at h; exact rb F0 H0 F1 σ H1 env _ (rl.grow e1) (by rw [hf2]; exact ErrOk.grow h e1.h)
    | ok d' =>
      rw [hf2] at h
      refine rb F0 H0 F1 σ H1 env _ (rl.grow e1) (post_ok hf2 fun v' F2 H2 e2 r2 => ?_)
      have h1 := PostG.grow antiO (show PostO G E F H (dListRg [d, d']) Q from h) (e1.trans e2)
      cases d <;> (first | exact h1.elim | skip) <;> cases d' <;> (first | exact h1.elim | skip)
      cases r1
      cases r2
      rename_i i j
      simp only [dListRg] at h1
      split at h1
      · rename_i hz
        have hs : (sizeLine : Nat) = 2 ^ 24 := by rw [sizeLine_eq]
        exact ⟨i, j, rfl, rfl, ⟨hz.1.1, hz.1.2, hz.2.1.1, hz.2.1.2, by have := hz.2.2; unfold line at this; omega⟩, fun q hq => h1 _ F2 _ (.own e2.i hq) ⟨q, _, _, rfl, rfl, hq, e2.i.free hq, upd_same, rep_rgV i j⟩⟩
      · exact h1.elim

/-! ### numbers -/
def dMax2 : List D → R D
  | [.int i, .int j] => .ok (.int (if j > i then j else i))
  | _ => .bad
def dMin2 : List D → R D
  | [.int i, .int j] => .ok (.int (if j < i then j else i))
  | _ => .bad
theorem ca_max2 [Calm G] (C : CxOk X G N k E) : CaM X G E false m' (.builtin "max") dMax2 := by
  refine ⟨_, fun i => call_max2 (C.calm i), fun F H vs ds Q s rv h => ?_⟩
  unfold dMax2 at h
  split at h
  · obtain ⟨v, w, rfl, q, q'⟩ := repL2 rv; cases q; cases q'
    exact ⟨_, _, rfl, h _ F H (.refl s) rfl⟩
  · exact h.elim
theorem ca_min2 [Calm G] (C : CxOk X G N k E) : CaM X G E false m' (.builtin "min") dMin2 := by
  refine ⟨_, fun i => call_min2 (C.calm i), fun F H vs ds Q s rv h => ?_⟩
  unfold dMin2 at h
  split at h
  · obtain ⟨v, w, rfl, q, q'⟩ := repL2 rv; cases q; cases q'
    exact ⟨_, _, rfl, h _ F H (.refl s) rfl⟩
  · exact h.elim
def dAbs : List D → R D
  | [.int i] => .ok (.int (if i < 0 then -i else i))
  | _ => .bad
theorem ca_abs : CaM X G E false m' (.builtin "abs") dAbs := by
  refine ⟨_, fun i => call_abs, fun F H vs ds Q s rv h => ?_⟩
  unfold dAbs at h
  split at h
  · obtain ⟨v, rfl, q⟩ := repL1 rv; cases q
    exact ⟨_, rfl, h _ F H (.refl s) rfl⟩
  · exact h.elim
def intsOf : List D → Option (List Int)
  | [] => some []
  | .int i :: l => (intsOf l).map (i :: ·)
  | _ :: _ => none
def blsOf : List D → Option (List Bool)
  | [] => some []
  | .bl i :: l => (blsOf l).map (i :: ·)
  | _ :: _ => none
def strsOf : List D → Option (List (List Char))
  | [] => some []
  | .str i :: l => (strsOf l).map (i :: ·)
  | _ :: _ => none
theorem ints_rep {F : Hp} : ∀ {l : List D} {xs : List V} {ns : List Int}, RepL G F l xs → intsOf l = some ns → xs = ns.map V.int
  | [], _, _, h, e => by cases h; cases e; rfl
  | .int i :: l, _, ns, ⟨v, vs, e1, h1, h2⟩, e => by
    simp only [intsOf] at e
    cases q : intsOf l with
    | none => rw [q] at e; cases e
    | some ms => rw [q] at e; cases e; cases h1; rw [e1, ints_rep h2 q]; rfl
  | .non :: _, _, _, _, e => by cases e
  | .bl _ :: _, _, _, _, e => by cases e
  | .str _ :: _, _, _, _, e => by cases e
  | .lst _ :: _, _, _, _, e => by cases e
  | .tup _ :: _, _, _, _, e => by cases e
  | .scr _ :: _, _, _, _, e => by cases e
  | .dic _ _ :: _, _, _, _, e => by cases e
  | .exc _ :: _, _, _, _, e => by cases e
  | .fn _ :: _, _, _, _, e => by cases e
theorem bls_rep {F : Hp} : ∀ {l : List D} {xs : List V} {ns : List Bool}, RepL G F l xs → blsOf l = some ns → xs = ns.map V.bl
  | [], _, _, h, e => by cases h; cases e; rfl
  | .bl i :: l, _, ns, ⟨v, vs, e1, h1, h2⟩, e => by
    simp only [blsOf] at e
    cases q : blsOf l with
    | none => rw [q] at e; cases e
    | some ms => rw [q] at e; cases e; cases h1; rw [e1, bls_rep h2 q]; rfl
  | .non :: _, _, _, _, e => by cases e
  | .int _ :: _, _, _, _, e => by cases e
  | .str _ :: _, _, _, _, e => by cases e
  | .lst _ :: _, _, _, _, e => by cases e
  | .tup _ :: _, _, _, _, e => by cases e
  | .scr _ :: _, _, _, _, e => by cases e
  | .dic _ _ :: _, _, _, _, e => by cases e
  | .exc _ :: _, _, _, _, e => by cases e
  | .fn _ :: _, _, _, _, e => by cases e
theorem strs_rep {F : Hp} : ∀ {l : List D} {xs : List V} {ns : List (List Char)}, RepL G F l xs → strsOf l = some ns → xs = (ns.map mkS).map V.str
  | [], _, _, h, e => by cases h; cases e; rfl
  | .str i :: l, _, ns, ⟨v, vs, e1, h1, h2⟩, e => by
    simp only [strsOf] at e
    cases q : strsOf l with
    | none => rw [q] at e; cases e
    | some ms => rw [q] at e; cases e; cases h1; rw [e1, strs_rep h2 q]; rfl
  | .non :: _, _, _, _, e => by cases e
  | .int _ :: _, _, _, _, e => by cases e
  | .bl _ :: _, _, _, _, e => by cases e
  | .lst _ :: _, _, _, _, e => by cases e
  | .tup _ :: _, _, _, _, e => by cases e
  | .scr _ :: _, _, _, _, e => by cases e
  | .dic _ _ :: _, _, _, _, e => by cases e
  | .exc _ :: _, _, _, _, e => by cases e
  | .fn _ :: _, _, _, _, e => by cases e
def dSum : List D → R D
  | [.lst l] => (match intsOf l with | some ns => .ok (.int ns.sum) | none => .bad)
  | _ => .bad
theorem ca_sum [Calm G] (C : CxOk X G N k E) : CaM X G E false m' (.builtin "sum") dSum := by
  refine ⟨_, fun i => by have q := cr_sum (C.calm i); rw [C.eK i] at q; exact q, fun F H vs ds Q s rv h => ?_⟩
  unfold dSum at h
  split at h
  · split at h
    · rename_i hn
      obtain ⟨v, rfl, q, xs, rfl, h1, h2⟩ := repL1 rv
      exact ⟨q, _, rfl, .inl (.inl (by rw [← ints_rep h2 hn]; exact h1)), h _ F H (.refl s) rfl⟩
    · exact h.elim
  · exact h.elim
def dAll : List D → R D
  | [.lst l] => (match blsOf l with | some ns => .ok (.bl (ns.all id)) | none => .bad)
  | _ => .bad
theorem ca_all [Calm G] (C : CxOk X G N k E) : CaM X G E false m' (.builtin "all") dAll := by
  refine ⟨_, fun i => by have q := cr_all (C.calm i); rw [C.eK i] at q; exact q, fun F H vs ds Q s rv h => ?_⟩
  unfold dAll at h
  split at h
  · split at h
    · rename_i hn
      obtain ⟨v, rfl, q, xs, rfl, h1, h2⟩ := repL1 rv
      exact ⟨q, _, rfl, .inl (.inl (by rw [← bls_rep h2 hn]; exact h1)), h _ F H (.refl s) rfl⟩
    · exact h.elim
  · exact h.elim

/-! ### methods of texts -/
/-- a method of a text, of one argument -/
@[simp] def eMs (op : List Char → D → R D) (f g : Ev → R D) : Ev → R D := fun env => (f env).bind fun d => match d with
  | .str s => (g env).bind (op s)
  | _ => .bad
def joinC (S : List Char) : List (List Char) → List Char
  | [] => []
  | [p] => p
  | p :: q :: r => p ++ (S ++ joinC S (q :: r))
theorem joinC_nat (s : List Char) : ∀ ys : List (List Char), TL.joinL (s.map Char.toNat) (ys.map (List.map Char.toNat)) = (joinC s ys).map Char.toNat
  | [] => rfl
  | [p] => rfl
  | p :: q :: r => by
    show p.map Char.toNat ++ (s.map Char.toNat ++ TL.joinL _ ((q :: r).map _)) = _
    rw [joinC_nat s (q :: r), joinC, List.map_append, List.map_append]
def dJoin (s : List Char) : D → R D
  | .lst l => (match strsOf l with
    | some ys => if (ys.map (·.length)).sum + ys.length * s.length ≤ line then .ok (.str (joinC s ys)) else .bad
    | none => .bad)
  | _ => .bad
theorem join_mk (s : List Char) (ys : List (List Char)) : Txt.join (mkS s) (ys.map mkS) = mkS (joinC s ys) := by
  rw [TL.join_eq]
  have e : ∀ ys : List (List Char), (ys.map mkS).map TL.tl = ys.map (List.map Char.toNat) := by
    intro ys
    induction ys with
    | nil => rfl
    | cons y ys ih => rw [List.map_cons, List.map_cons, ih]; rfl
  have h := TL.tl_join (mkS s) (ys.map mkS)
  rw [e] at h
  have h2 : TL.tl (mkS s) = s.map Char.toNat := rfl
  rw [h2, joinC_nat] at h
  exact TL.ext_tl (h.trans (by rfl))
theorem em_ms {id : String} {name : Str} {r : V → List V → Hp → VK → Prop} {op : List Char → D → R D} (C : CxOk X G N k E) (slot : Slot "str" name id) (ty : typeOf (.builtin id) = pure (.type "method_descriptor")) (rule : ∀ i, MtR (X i) id r)
    (hr : ∀ F H s d v Q, Same F H → Rep G (wd m' F H) d v → Post G E m F H (op s d) Q → r (.str (mkS s)) [v] H Q)
    (ha : EM X G E false O a fa) (he : EM X G E m' O e fe) (hs : ∀ i, starEach [e] (X i).env = [(false, eval e (X i).env)] := by intro _; rfl) (hbase : ∀ i, attributeBase a name (X i).env (eval a (X i).env) = eval a (X i).env := by intro _; rfl) (hline : (apos.endLine == pos.line) = true := by rfl) :
    EM X G E m O (.Call (.Attribute a name apos) [e] [] pos) (eMs op fa fe) := by
  obtain ⟨ta, pa, ra⟩ := ha.ex
  obtain ⟨te, pe, re⟩ := he.ex
  refine ⟨tM1 r ta te, fun i => pe_m1 slot ty (rule i) (pa i) (pe i) (hs i) (hbase i) hline, fun F0 H0 F σ H env Q rl h => ?_⟩
  refine ra F0 H0 F σ H env _ rl (PostG.bind antiM h fun d v F1 H1 e1 r1 h1 => ?_)
  cases d <;> first | exact h1.elim | skip
  cases r1
  exact ⟨⟨_, rfl⟩, re F0 H0 F1 σ H1 env _ (rl.grow e1) (PostG.bind antiM h1 fun d2 w F2 H2 e2 r2 h2 => hr F2 H2 _ d2 w Q e2.i r2 h2)⟩
theorem em_join (C : CxOk X G N k E) (ha : EM X G E false O a fa) (he : EM X G E false O e fe) (hs : ∀ i, starEach [e] (X i).env = [(false, eval e (X i).env)] := by intro _; rfl) (hbase : ∀ i, attributeBase a "join" (X i).env (eval a (X i).env) = eval a (X i).env := by intro _; rfl) (hline : (apos.endLine == pos.line) = true := by rfl) :
    EM X G E m O (.Call (.Attribute a "join" apos) [e] [] pos) (eMs dJoin fa fe) := by
  refine em_ms C PySem.F.slot_str_join PySem.F.type_str_join (fun i => by have q := mt_join (X := X i); rw [C.eK i] at q; exact q) (fun F H s d v Q i rv h => ?_) ha he hs hbase hline
  cases d <;> first | exact h.elim | skip
  obtain ⟨q, xs, rfl, q1, q2⟩ := rv
  simp only [dJoin] at h
  split at h
  · rename_i ys hys
    split at h
    · rename_i hz
      refine ⟨mkS s, q, ys.map mkS, rfl, rfl, .inl (.inl (.inl (by rw [← strs_rep q2 hys]; exact q1))), ?_, ?_⟩
      · rw [List.length_map, List.map_map, str_len]
        have e : ((fun x : Str => x.length) ∘ mkS) = fun x : List Char => x.length := by funext x; exact str_len x
        rw [e]; exact hz
      · rw [join_mk]; exact h _ F H (.refl i) rfl
    · exact h.elim
  · exact h.elim
end
end G81

/-! Short forms for written walks. -/
namespace G81
open PySem PySem.Spec PyProof.Rows L2

theorem FnM.un {G : Gx} {k n : Nat} {x : Str} {g : List D → R D} (h : FnM G k x n true g) : FnM G k x n false g := by
  obtain ⟨f, fd, ps, ok, r⟩ := h.ex
  refine ⟨f, fd, ps, ok.imp fun vs H Q E h => ?_, r⟩
  obtain ⟨F, ds, h1, h2, h3, h4⟩ := h
  refine ⟨F, ds, h1, h2, h3, ?_⟩
  cases hb : g ds with
  | bad => rw [hb] at h4; exact h4.elim
  | err c => rw [hb] at h4; exact h4
  | ok d =>
    rw [hb] at h4
    rintro v F' H' e ⟨a, xs, l, rfl, rfl, q0, q1, q2, q3⟩
    have sF : Same F' (upd F' a (.lst xs)) := same_upd' q1
    refine h4 (.ref a) (upd F' a (.lst xs)) H' ⟨e.f.trans sF, e.h, fun b o eb => ?_, fun b hb => ?_, e.s⟩ ⟨a, xs, rfl, upd_same, q3.mono sF⟩
    · by_cases q : b = a
      · subst q; rw [upd_same] at eb; cases eb; exact q2
      · rw [upd_ne q] at eb; exact e.i _ _ eb
    · rw [upd_ne fun z => hb (by rw [z]; exact q0)]; exact e.n b hb
/-- where a def of the text stands -/
structure TopD (G : Gx) (x : Str) (st : Stmt) (ps : List Str) : Prop where
  ex : ∃ f fd, Fun G.K x x st f fd ∧ G.mg x = some (.ref f) ∧ Binds G.K fd ps []

def subB (O' O : List Nat) : Bool := O'.all fun j => O.contains j
theorem subB_of {O' O : List Nat} (h : subB O' O = true) : ∀ j, j ∈ O' → j ∈ O := fun j hj => by
  have := List.all_eq_true.mp h j hj
  simpa using this
section
variable {ι : Type} {X : ι → Cx} {G : Gx} {E : XK} {N : List Str} {k : Nat} {own m : Bool} {O O' O1 : List Nat} {pos p : Pos} {e a : Expr} {fe fa : Ev → R D} {x : Str}
theorem b0 (h : subB O' O = true := by rfl) : BM X G E own O O' [] sNil := bm_nil (subB_of h)
theorem sWk (O1 : List Nat) {st : Stmt} {f : Ev → Out} (h : SM X G E own O1 O' st f) (hO : subB O1 O = true := by rfl) : SM X G E own O O' st f := sm_weak (subB_of hO) h
theorem sSetN (C : CxOk X G N k E) (i : Nat) {pos' : Pos} (hN : N[i]? = some x) (hl : ∀ j, Loc (X j).env.scope x) (he : EM X G E true O e fe) (h : decide (i ∈ O) = false := by rfl)
    (hs : ∀ j, swapsWith e (some (.Name x pos')) pos.line (X j).env = pure false := by intro _; rfl) (hf : ∀ j, (X j).fn x = true ∨ (X j).env.scope.names.lookup x = some .local := by intro _; exact .inl rfl) :
    SM X G E own O O (.Assign [.Name x pos'] e pos) (sSet i fe) :=
  sm_set C i hN hl he (fun j => ⟨fun z => ⟨z, fun y => of_decide_eq_false h (y ▸ z)⟩, fun z => z.1⟩) hs hf
def rmL (i : Nat) (O : List Nat) : List Nat := O.filter fun j => j != i
theorem sSetR (C : CxOk X G N k E) (i : Nat) {pos' : Pos} (hN : N[i]? = some x) (hl : ∀ j, Loc (X j).env.scope x) (he : EM X G E true O e fe) (h : O' = rmL i O := by rfl)
    (hs : ∀ j, swapsWith e (some (.Name x pos')) pos.line (X j).env = pure false := by intro _; rfl) (hf : ∀ j, (X j).fn x = true ∨ (X j).env.scope.names.lookup x = some .local := by intro _; exact .inl rfl) :
    SM X G E own O O' (.Assign [.Name x pos'] e pos) (sSet i fe) :=
  sm_set C i hN hl he (fun j => by rw [h]; simp [rmL, List.mem_filter]) hs hf
theorem sSetO (C : CxOk X G N k E) (i : Nat) {pos' : Pos} (hN : N[i]? = some x) (hl : ∀ j, Loc (X j).env.scope x) (he : EO X G E O e fe) (h : O' = i :: rmL i O := by rfl)
    (hs : ∀ j, swapsWith e (some (.Name x pos')) pos.line (X j).env = pure false := by intro _; rfl) (hf : ∀ j, (X j).fn x = true ∨ (X j).env.scope.names.lookup x = some .local := by intro _; exact .inl rfl) :
    SM X G E own O O' (.Assign [.Name x pos'] e pos) (sSet i fe) :=
  sm_setO C i hN hl he (fun j => by rw [h]; simp [rmL, List.mem_filter]; by_cases q : j = i <;> simp [q]) hs hf
def disj (ow O : List Nat) : Bool := ow.all fun j => !O.contains j
theorem disj_of {ow O : List Nat} (h : disj ow O = true) : ∀ j, j ∈ O ↔ j ∈ O ∧ j ∉ ow := fun j => ⟨fun z => ⟨z, fun y => by
  have := List.all_eq_true.mp h j y
  simp at this
  exact this z⟩, fun z => z.1⟩
variable {b : Bool}
theorem eLcN [Calm G] {elt tg iter : Expr} {ifs : List Expr} {scope : Scope} (ow : List (Str × Nat)) {sc : Scope} {g : Ev → R (List D)} {tgt : D → Ev → R Ev} {tst : Ev → R Bool} {fe : Ev → R D} (C : CxOk X G N k E)
    (hi : IM X G E b true O tg iter g) (ok : ∀ i, (X i).env.scope = sc) (ok2 : blkC N sc scope ow = true)
    (hg : GM (blkF X scope) G O (ow.map (·.2)) tg tgt) (ht : TsM (blkF X scope) G E0 O ifs tst) (he : EM (blkF X scope) G E0 true O elt fe) (hO : disj (ow.map (·.2)) O = true := by rfl) (hs : ∀ i x, foldedSetIterable iter (X i).env x = pure x := by intro _ _; rfl) :
    EO X G E O (.ListComp elt [⟨tg, iter, ifs, 0⟩] scope pos) (eLc (ow.map (·.2)) g tgt tst fe) :=
  eo_lc C (disj_of hO) hi (fun i => by rw [C.eN i, ok i]; exact blkOk_by ok2) hg ht he hs
theorem sSetLc [Calm G] {i : Nat} {y : Str} {py cpos : Pos} {elt tg iter : Expr} {ifs : List Expr} {scope : Scope} (ow : List (Str × Nat)) {sc : Scope} {g : Ev → R (List D)} {tgt : D → Ev → R Ev} {tst : Ev → R Bool} {fe : Ev → R D} (C : CxOk X G N k E)
    (hN : N[i]? = some y) (hyl : ∀ j, (X j).env.scope.names.lookup y = some .local) (hsw : ∀ j, swapsWith (.ListComp elt [⟨tg, iter, ifs, 0⟩] scope cpos) (some (.Name y py)) pos.line (X j).env = pure true)
    (hi : IM X G E b true O tg iter g) (ok : ∀ i, (X i).env.scope = sc) (ok2 : blkC N sc scope ow = true)
    (hg : GM (blkF X scope) G O (ow.map (·.2)) tg tgt) (ht : TsM (blkF X scope) G E0 O ifs tst) (he : EM (blkF X scope) G E0 true O elt fe) (h1 : O' = i :: rmL i O := by rfl) (hO : disj (ow.map (·.2)) O = true := by rfl) (hs : ∀ i x, foldedSetIterable iter (X i).env x = pure x := by intro _ _; rfl) :
    SM X G E own O O' (.Assign [.Name y py] (.ListComp elt [⟨tg, iter, ifs, 0⟩] scope cpos) pos) (sSet i (eLc (ow.map (·.2)) g tgt tst fe)) :=
  sm_setLc C (disj_of hO) hN hyl hsw hi (fun i => by rw [C.eN i, ok i]; exact blkOk_by ok2) hg ht he (fun j => by rw [h1]; simp [rmL, List.mem_filter]; by_cases q : j = i <;> simp [q]) hs
@[simp] def eNeg (f : Ev → R D) : Ev → R D := fun env => (f env).bind fun d => match d with
  | .int i => .ok (.int (-i))
  | _ => .bad
theorem em_neg (ha : EM X G E false O a fa) : EM X G E m O (.UnaryOp .USub a pos) (eNeg fa) := by
  obtain ⟨ta, pa, ra⟩ := ha.ex
  refine ⟨_, fun i => pe_un un_neg (pa i), fun F0 H0 F σ H env Q rl h => ra F0 H0 F σ H env _ rl (PostG.bind antiM h fun d v F1 H1 e1 r1 h1 => ?_)⟩
  cases d <;> first | exact h1.elim | skip
  cases r1
  exact ⟨_, rfl, h1 _ F1 H1 (.refl e1.i) rfl⟩
end
end G81

/-! More short forms. -/
namespace G81
open PySem PySem.Spec PyProof.Rows L2
theorem tsN_ne {i : Nat} : ∀ (d : D) (env : Ev) (c : Str), tsN i d env ≠ .err c := fun d env c h => by cases h
section
variable {ι : Type} {X : ι → Cx} {G : Gx} {E : XK} {N : List Str} {k : Nat} {own m : Bool} {O O' O1 : List Nat} {pos p : Pos} {e a : Expr} {fe fa : Ev → R D} {x : Str}
theorem sSetXN (C : CxOk X G N k E) (i : Nat) {pos' : Pos} {f : Ev → R (D × Ev)} (hN : N[i]? = some x) (hl : ∀ j, Loc (X j).env.scope x) (he : XM X G E O e f) (h : decide (i ∈ O) = false := by rfl)
    (hs : ∀ j, swapsWith e (some (.Name x pos')) pos.line (X j).env = pure false := by intro _; rfl) (hf : ∀ j, (X j).fn x = true ∨ (X j).env.scope.names.lookup x = some .local := by intro _; exact .inl rfl) :
    SM X G E own O O (.Assign [.Name x pos'] e pos) (sSetX i f) :=
  sm_setX C i hN hl he (fun j => ⟨fun z => ⟨z, fun y => of_decide_eq_false h (y ▸ z)⟩, fun z => z.1⟩) hs hf
end
end G81

/-! The law's end. -/
namespace G81
open PySem PySem.Spec PyProof.Rows L2
theorem fn_okF {G : Gx} [Calm G] {x qual : Str} {st : Stmt} {f : Addr} {fd : FuncData} {N ps : List Str} {k n : Nat} {own : Bool} {O' : List Nat} {fb : Ev → Out} (F : Fun G.K x qual st f fd) (Sc : FnScope N ps (defScope st)) (hn : ps.length = n)
    (body : ∀ (cdv : Value) (A : Around) (outer : List Env) (s : Shared) (H : Hp) (E : XK), SxOk (cxU G N qual (defScope st) f cdv A outer s H E) G N k E → BM (cxU G N qual (defScope st) f cdv A outer s H E) G E own [] O' (defBody st) fb) :
    FnOk G.P G.w G.K G.mg G.base (L2.CX G.P G.w) (k + 1) f fd ps (spF G own n (fun ds => toR own (fb (startE N ds)))) := by
  refine F.okX Sc (fun vs H Q E h => ?_) (fun cdv A outer s H vs Q E hr h => ?_)
  · obtain ⟨_, _, _, h, _⟩ := h
    rw [h, hn]
  · obtain ⟨F1, ds, i, hl, hr', hp⟩ := h
    obtain ⟨t, ht, rd⟩ := (body cdv A outer s H E (sx_mk Sc.nd hr)).ex
    refine ⟨t, ht (), rd F1 H F1 (L2.start N vs) H (startE N ds) _ (rel_start i hr') ?_⟩
    have hp : PostG G E (relF G own) F1 H (toR own (fb (startE N ds))) Q := hp
    cases hf : fb (startE N ds) with
    | nx e =>
      rw [hf] at hp
      cases own with
      | true => exact hp.elim
      | false => exact fun F' σ' H' s' r' => hp .non F' H' r'.ext rfl
    | rt d => rw [hf] at hp; exact fun v F' H' e rv => hp v F' H' e rv
    | er c => rw [hf] at hp; exact hp
    | bad => rw [hf] at hp; exact hp
def spLaw (K : PySem.W.Frag) : Sp := fun vs H Q _ => ∃ (a : Addr) (ns : List Int), vs = [.ref a] ∧ SqL K H a (ns.map V.int) ∧ ns.length ≤ 63 ∧ ∀ H', Q (.bl true) H'
theorem law_fn {G : Gx} {CX : CXT} {k : Nat} {f : Addr} {fd : FuncData} {ps : List Str} {g : List D → R D} (F : FnOk G.P G.w G.K G.mg G.base CX k f fd ps (spF G false 1 g)) (h : ∀ ns : List Int, ns.length ≤ 63 → g [.scr ns] = .ok (.bl true)) :
    FnOk G.P G.w G.K G.mg G.base CX k f fd ps (spLaw G.K) := by
  refine F.imp fun vs H Q E q => ?_
  obtain ⟨a, ns, rfl, hS, hl, q⟩ := q
  refine ⟨H, [.scr ns], .refl _, rfl, ⟨_, _, rfl, ⟨a, rfl, hS⟩, rfl⟩, ?_⟩
  rw [h ns hl]
  intro v F' H' e rv
  cases rv
  exact q H'
theorem no_cx {P : Program} {w : World} {H : Hp} {s : Shared} {e : Value} {s' : Shared} (c : L2.CX P w [] H s (fun _ _ _ => False) e s') : False := by
  obtain ⟨_, _, _, _, _, _, _, _, _, _, _, _, z⟩ := c
  exact z
/-- where a def of the text stands, without a base -/
structure TopK (K : PySem.W.Frag) (mg : Str → Option Value) (x : Str) (st : Stmt) (ps : List Str) : Prop where
  ex : ∃ f fd, Fun K x x st f fd ∧ mg x = some (.ref f) ∧ Binds K fd ps []
theorem TopK.d {G : Gx} {x : Str} {st : Stmt} {ps : List Str} (T : TopK G.K G.mg x st ps) : TopD G x st ps := ⟨T.ex⟩
theorem topK_mk {K : PySem.W.Frag} {h : Heap} {mg : Str → Option Value} {x : Str} {st : Stmt} {f : Addr} {od an : Option Addr} {sl : Array (Option Value)} {oc kV dc pm cd ct : Value} {ps : List Str} (X : K.In h) (G : h.Ns mainGlobals mg)
    (a : PySem.W.nsIn K mainGlobals x = some (some (.ref f))) (l : K.lookup f = some ⟨oc, od, .func (PySem.W.fnOf x x (defArgs st) (defBody st) (defScope st) .none kV dc pm an cd ct), sl⟩) (c : PySem.W.codeIn K cd x = true) (k : PySem.W.keepIn K (.ref f) = true)
    (hb : ∀ (kV doc pm : Value) (an : Option Addr) (cdv ct : Value) (us : List Value), us.length = ps.length → bindArgs (PySem.W.fnOf x x (defArgs st) (defBody st) (defScope st) .none kV doc pm an cdv ct) ⟨us, []⟩ = pure (ps.zip us)) : TopK K mg x st ps :=
  ⟨_, _, fun_mk l c k, PySem.W.mg_of X G a, (fun_mk l c k).binds hb⟩
end G81
namespace G81
open PySem PySem.Spec PyProof.Rows L2
theorem law_mk {l : PySem.W.OpenLaw} {w : World} {K : PySem.W.Frag} {h : Heap} {mg : Str → Option Value} {fa f : Addr} {kk : Nat} {st : Stmt} {od an : Option Addr} {sl : Array (Option Value)} {oc kV dc pm cd ct : Value} (X : K.In h) (G : h.Ns mainGlobals mg) (hfa : mg "law" = some (.ref fa))
    (a : PySem.W.nsIn K mainGlobals "law" = some (some (.ref f))) (hl : K.lookup f = some ⟨oc, od, .func (PySem.W.fnOf "law" "law" (defArgs st) (defBody st) (defScope st) .none kV dc pm an cd ct), sl⟩) (c : PySem.W.codeIn K cd "law" = true) (k : PySem.W.keepIn K (.ref f) = true)
    (hb : ∀ (s : Shared) (v : Value), BindsTo s (PySem.W.fnOf "law" "law" (defArgs st) (defBody st) (defScope st) .none kV dc pm an cd ct) ⟨[v], []⟩ [("_law_script", v)])
    (F : ∀ (base : Heap) (fd : FuncData), Fun K "law" "law" st fa fd → FnOk l.prog w K mg base (L2.CX l.prog w) kk fa fd ["_law_script"] (spLaw K)) :
    ∃ fd : FuncData, (∀ (s : Shared) (v : Value), BindsTo s fd ⟨[v], []⟩ [("_law_script", v)]) ∧ ∀ base : Heap, K.In base → base.Ns mainGlobals mg → FnOk l.prog w K mg base (L2.CX l.prog w) kk fa fd ["_law_script"] (spLaw K) := by
  have e := hfa.symm.trans (PySem.W.mg_of X G a)
  cases e
  exact ⟨_, hb, fun base _ _ => F base _ (fun_mk hl c k)⟩
end G81

/-! Chains, refusals raised, constants, dicts of texts. -/
namespace G81
open PySem PySem.Spec PyProof.Rows L2
@[simp] def eCh (o1 o2 : D → D → R Bool) (f g h : Ev → R D) : Ev → R D := fun env => (f env).bind fun a => (g env).bind fun b => (o1 a b).bind fun c => if c = true then (h env).bind fun e => (o2 b e).bind fun z => .ok (.bl z) else .ok (.bl false)
@[simp] def tCh (o1 o2 : D → D → R Bool) (f g h : Ev → R D) : Ev → R Bool := fun env => (f env).bind fun a => (g env).bind fun b => (o1 a b).bind fun c => if c = true then (h env).bind fun e => o2 b e else .ok false
@[simp] def sRaise (c : Str) : Ev → Out := fun _ => .er c
/-- an exception class of the program's own, under ValueError -/
structure ExM (G : Gx) (x : Str) : Prop where
  ex : ∃ C, G.mg x = some (.ref C) ∧ PySem.W.excIn G.K C [.type "ValueError", .type "Exception", .type "BaseException", .type "object"] "ValueError.__new__" = true ∧ PySem.W.keepIn G.K (.ref C) = true ∧
    PySem.W.subIn G.K (.ref C) (.type "BaseException") = some true ∧ PySem.W.typeIn G.K (.ref C) = some (.type "type")
structure ExK (K : PySem.W.Frag) (mg : Str → Option Value) (x : Str) : Prop where
  ex : ∃ C, mg x = some (.ref C) ∧ PySem.W.excIn K C [.type "ValueError", .type "Exception", .type "BaseException", .type "object"] "ValueError.__new__" = true ∧ PySem.W.keepIn K (.ref C) = true ∧
    PySem.W.subIn K (.ref C) (.type "BaseException") = some true ∧ PySem.W.typeIn K (.ref C) = some (.type "type")
theorem ExK.m {G : Gx} {x : Str} (h : ExK G.K G.mg x) : ExM G x := ⟨h.ex⟩
theorem exK_mk {K : PySem.W.Frag} {h : Heap} {mg : Str → Option Value} {x : Str} {C : Addr} (X : K.In h) (G : h.Ns mainGlobals mg) (n : PySem.W.nsIn K mainGlobals x = some (some (.ref C)))
    (e : PySem.W.excIn K C [.type "ValueError", .type "Exception", .type "BaseException", .type "object"] "ValueError.__new__" = true) (k : PySem.W.keepIn K (.ref C) = true) (s : PySem.W.subIn K (.ref C) (.type "BaseException") = some true) (t : PySem.W.typeIn K (.ref C) = some (.type "type")) : ExK K mg x :=
  ⟨C, PySem.W.mg_of X G n, e, k, s, t⟩
section
variable {ι : Type} {X : ι → Cx} {G : Gx} {E : XK} {N : List Str} {k : Nat} {m own : Bool} {O O' : List Nat} {a b c : Expr} {fa fb fc : Ev → R D} {pos p p2 : Pos} {o1 o2 : D → D → R Bool} {op op' : CmpOp}
theorem em_chain (h1 : CmM X G (compareOp op) o1) (n1 : NoErr o1) (h2 : CmM X G (compareOp op') o2) (n2 : NoErr o2) (ha : EM X G E false O a fa) (hb : EM X G E false O b fb) (hc : EM X G E false O c fc) (hm : lastMarks [op, op'] [b, c] = false := by rfl) :
    EM X G E m O (.Compare a [op, op'] [b, c] pos) (eCh o1 o2 fa fb fc) := by
  obtain ⟨r1, hr1, rd1⟩ := h1.ex
  obtain ⟨r2, hr2, rd2⟩ := h2.ex
  obtain ⟨ta, pa, ra⟩ := ha.ex
  obtain ⟨tb, pb, rb⟩ := hb.ex
  obtain ⟨tc, pc, rc⟩ := hc.ex
  refine ⟨tChain r1 r2 ta tb tc, fun i => pe_chain (hr1 i) (hr2 i) (pa i) (pb i) (pc i) hm, fun F0 H0 F σ H env Q rl h => ?_⟩
  refine ra F0 H0 F σ H env _ rl (PostG.bind antiM h fun x vx F1 H1 e1 q1 h1 => ?_)
  refine rb F0 H0 F1 σ H1 env _ (rl.grow e1) (PostG.bind antiM h1 fun y vy F2 H2 e2 q2 h2 => ?_)
  cases h3 : o1 x y with
  | err c => exact absurd h3 (n1 x y c)
  | bad => rw [h3] at h2; exact h2.elim
  | ok z =>
    rw [h3] at h2
    refine rd1 H2 vx vy x y _ (q1.mono (wd_mono e2) _ _) q2 (fun z' hz => ?_) ⟨z, h3⟩
    rw [h3] at hz; cases hz
    refine ⟨z, rfl, ?_⟩
    cases z with
    | false => exact h2 _ F2 H2 (.refl e2.i) rfl
    | true =>
      rw [if_pos rfl]
      simp only [R.bind_ok, if_true] at h2
      refine rc F0 H0 F2 σ H2 env _ ((rl.grow e1).grow e2) (PostG.bind antiM h2 fun w vw F3 H3 e3 q3 h4 => ?_)
      cases h5 : o2 y w with
      | err c => exact absurd h5 (n2 y w c)
      | bad => rw [h5] at h4; exact h4.elim
      | ok u =>
        rw [h5] at h4
        exact rd2 H3 vy vw y w _ (q2.mono (wd_mono e3) _ _) q3 (fun u' hu => by rw [h5] at hu; cases hu; exact h4 _ F3 H3 (.refl e3.i) rfl) ⟨u, h5⟩
theorem tm_chain (h1 : CmM X G (compareOp op) o1) (n1 : NoErr o1) (h2 : CmM X G (compareOp op') o2) (n2 : NoErr o2) (ha : EM X G E false O a fa) (hb : EM X G E false O b fb) (hc : EM X G E false O c fc) (hm : lastMarks [op, op'] [b, c] = false := by rfl) :
    TM X G E O (.Compare a [op, op'] [b, c] pos) (tCh o1 o2 fa fb fc) := by
  obtain ⟨r1, hr1, rd1⟩ := h1.ex
  obtain ⟨r2, hr2, rd2⟩ := h2.ex
  obtain ⟨ta, pa, ra⟩ := ha.ex
  obtain ⟨tb, pb, rb⟩ := hb.ex
  obtain ⟨tc, pc, rc⟩ := hc.ex
  refine ⟨tTest (tChain r1 r2 ta tb tc), fun i => pt_chain (hr1 i) (hr2 i) (pa i) (pb i) (pc i) hm, fun F0 H0 F σ H env Q rl h => ?_⟩
  refine ra F0 H0 F σ H env _ rl (PostG.bind antiB h fun x vx F1 H1 e1 q1 h1 => ?_)
  refine rb F0 H0 F1 σ H1 env _ (rl.grow e1) (PostG.bind antiB h1 fun y vy F2 H2 e2 q2 h2 => ?_)
  cases h3 : o1 x y with
  | err c => exact absurd h3 (n1 x y c)
  | bad => rw [h3] at h2; exact h2.elim
  | ok z =>
    rw [h3] at h2
    refine rd1 H2 vx vy x y _ (q1.mono (wd_mono e2) _ _) q2 (fun z' hz => ?_) ⟨z, h3⟩
    rw [h3] at hz; cases hz
    refine ⟨z, rfl, ?_⟩
    cases z with
    | false => exact ⟨false, rfl, h2 _ F2 H2 (.refl e2.i) rfl⟩
    | true =>
      rw [if_pos rfl]
      simp only [R.bind_ok, if_true] at h2
      refine rc F0 H0 F2 σ H2 env _ ((rl.grow e1).grow e2) (PostG.bind antiB h2 fun w vw F3 H3 e3 q3 h4 => ?_)
      cases h5 : o2 y w with
      | err c => exact absurd h5 (n2 y w c)
      | bad => rw [h5] at h4; exact h4.elim
      | ok u =>
        rw [h5] at h4
        exact rd2 H3 vy vw y w _ (q2.mono (wd_mono e3) _ _) q3 (fun u' hu => by rw [h5] at hu; cases hu; exact ⟨u, rfl, h4 _ F3 H3 (.refl e3.i) rfl⟩) ⟨u, h5⟩
theorem sm_raise [Calm G] {x msg : Str} {j : Nat} {pos2 : Pos} (C : SxOk X G N k E) (hx : ExM G x) (hg : ∀ i, Gl (X i) x) (hdb : (x == ("__debug__" : Str)) = false := by decide) :
    SM X G E own O O' (.Raise (some (.Call (.Name x p) [.Constant (.str msg) j p2] [] pos2)) none pos) (sRaise x) := by
  obtain ⟨Cl, h1, h2, h3, h4, h5⟩ := hx.ex
  refine ⟨_, fun i => ps_raise (C.c.calm i) (C.tk i) (pmk_own PySem.F.excBase_ValueError (by rw [C.c.eK i]; exact h2) (by rw [C.c.emg i]; exact h1) (by rw [C.c.eK i]; exact h3) (raises_own (by rw [C.c.eK i]; exact h4) (by rw [C.c.eK i]; exact h5)) (hg i) hdb), fun F0 H0 F σ H env D rl h => ?_⟩
  obtain ⟨C2, g1, g2⟩ := h
  rw [h1] at g1
  cases g1
  exact g2 H rl.ext.h
end
/-- a constant text, a constant number of the module -/
theorem em_cstr {ι : Type} {X : ι → Cx} {G : Gx} {E : XK} {N : List Str} {k : Nat} {m : Bool} {O : List Nat} {pos : Pos} (C : CxOk X G N k E) {x : Str} {s : String} (hg : ∀ i, Gl (X i) x) (hm : ∃ t, G.mg x = some (.str (Str.ofString s) t)) (hd : (x == ("__debug__" : Str)) = false := by decide) : EM X G E m O (.Name x pos) (eStr s) := by
  obtain ⟨t, hm⟩ := hm
  exact ⟨_, fun i => pe_glob (v := .str (Str.ofString s)) (hg i) (by rw [C.emg i]; exact hm) ⟨t, rfl⟩ hd, fun F0 H0 F σ H env Q rl h => h _ F H (.refl rl.ext.i) (rep_str s)⟩
theorem em_cint {ι : Type} {X : ι → Cx} {G : Gx} {E : XK} {N : List Str} {k : Nat} {m : Bool} {O : List Nat} {pos : Pos} (C : CxOk X G N k E) {x : Str} {z : Int} (hg : ∀ i, Gl (X i) x) (hm : ∃ t, G.mg x = some (.int z t)) (hd : (x == ("__debug__" : Str)) = false := by decide) : EM X G E m O (.Name x pos) (eInt z) := by
  obtain ⟨t, hm⟩ := hm
  exact ⟨_, fun i => pe_glob (v := .int z) (hg i) (by rw [C.emg i]; exact hm) ⟨t, rfl⟩ hd, fun F0 H0 F σ H env Q rl h => h _ F H (.refl rl.ext.i) rfl⟩
theorem k_str {mg : Str → Option Value} {x s u : Str} {t : Tok} (h : mg x = some (.str s t)) (e : s = u) : ∃ t, mg x = some (.str u t) := ⟨t, by rw [h, e]⟩
theorem k_int {mg : Str → Option Value} {x : Str} {z : Int} {t : Tok} (h : mg x = some (.int z t)) : ∃ t, mg x = some (.int z t) := ⟨t, h⟩
end G81

/-! Dicts of texts. -/
namespace G81
open PySem PySem.Spec PyProof.Rows L2
theorem mkS_injK {a b : List Char} (h : mkS a = mkS b) : a = b := by
  have h2 : a.map Char.toNat = b.map Char.toNat := by
    have := congrArg (fun s : Str => s.cps.toList) h
    simpa [mkS] using this
  exact List.map_inj_right (fun x y e => Char.toNat_inj.mp e) |>.mp h2
theorem kOf_inj {a b : Int ⊕ List Char} (h : kOf a = kOf b) : a = b := by
  cases a <;> cases b
  · cases h; rfl
  · cases h
  · cases h
  · rw [mkS_injK (Sum.inr.inj h)]
def dLook : List (Int ⊕ List Char) → List D → Int ⊕ List Char → Option D
  | k :: ks, v :: vs, x => if k = x then some v else dLook ks vs x
  | _, _, _ => none
theorem look_rep {G : Gx} {F : Hp} {x : Int ⊕ List Char} : ∀ {ks : List (Int ⊕ List Char)} {vs : List D} {xs : List V} {d : D}, RepL G F vs xs → dLook ks vs x = some d → ∃ v, valV (zipK ks xs) (kOf x) = some v ∧ Rep G F d v
  | [], _, _, _, _, h => by cases h
  | _ :: _, [], _, _, _, h => by cases h
  | k :: ks, e :: vs, _, d, ⟨v, ws, e1, h1, h2⟩, h => by
    subst e1
    rw [dLook] at h
    split at h
    · rename_i q
      cases h
      exact ⟨v, by simp [valV, zipK, q], h1⟩
    · rename_i q
      obtain ⟨u, hu, ru⟩ := look_rep h2 h
      refine ⟨u, ?_, ru⟩
      have q2 : ¬ kOf k = kOf x := fun z => q (kOf_inj z)
      simpa [valV, zipK, q2] using hu
theorem look_none {x : Int ⊕ List Char} : ∀ {ks : List (Int ⊕ List Char)} {vs : List D} {xs : List V}, xs.length = vs.length → dLook ks vs x = none → valV (zipK ks xs) (kOf x) = none
  | [], _, _, _, _ => rfl
  | _ :: _, [], xs, hl, _ => by
    have : xs = [] := List.eq_nil_of_length_eq_zero hl
    subst this; rfl
  | k :: ks, e :: vs, [], hl, _ => by cases hl
  | k :: ks, e :: vs, v :: ws, hl, h => by
    rw [dLook] at h
    split at h
    · cases h
    · rename_i q
      have q2 : ¬ kOf k = kOf x := fun z => q (kOf_inj z)
      have := look_none (xs := ws) (by simpa using hl) h
      simpa [valV, zipK, q2] using this
def keyD : D → Option (Int ⊕ List Char)
  | .int i => some (.inl i)
  | .str s => some (.inr s)
  | _ => none
theorem key_rep {G : Gx} {F : Hp} {d : D} {v : V} {x : Int ⊕ List Char} (h : Rep G F d v) (e : keyD d = some x) : v = kV (kOf x) := by
  cases d <;> first | cases e; done | skip
  · cases e; cases h; rfl
  · cases e; cases h; rfl
def dGetD (d k : D) : R D := match d with
  | .dic ks vs => (match keyD k with
    | some x => (match dLook ks vs x with
      | some v => .ok v
      | none => .bad)
    | none => .bad)
  | _ => .bad
/-- a written dict of texts -/
def eDict (kvs : List (String × String)) : Ev → R D := fun _ => .ok (.dic (kvs.map fun p => .inr p.1.toList) (kvs.map fun p => .str p.2.toList))
def conK (kvs : List (String × String)) : List (Key × V) := kvs.map fun p => (Sum.inr (Str.ofString p.1), V.str (Str.ofString p.2))
def trK (kvs : List (String × String)) : List (TE × TE) := kvs.map fun p => (tC (.str (Str.ofString p.1)), tC (.str (Str.ofString p.2)))
theorem tPairs_con {σ : L2.St} : ∀ (kvs : List (String × String)) {H : Hp} {Q : List (V × V) → Hp → Prop}, Q ((conK kvs).map fun kv => (kV kv.1, kv.2)) H → tPairs (trK kvs) σ H Q
  | [], _, _, h => h
  | p :: r, _, _, h => tPairs_con r (Q := fun ps H3 => _) h
theorem conK_zip (kvs : List (String × String)) : conK kvs = zipK (kvs.map fun p => .inr p.1.toList) (kvs.map fun p => .str (mkS p.2.toList)) := by
  induction kvs with
  | nil => rfl
  | cons p r ih =>
    have e1 := mkS_of p.1
    have e2 := mkS_of p.2
    unfold conK zipK at ih ⊢
    simp only [List.map_cons, List.zip_cons_cons, kOf, e1, e2, List.cons.injEq, true_and]
    simpa using ih
section
variable {ι : Type} {X : ι → Cx} {G : Gx} {E : XK} {N : List Str} {k : Nat} {m : Bool} {O : List Nat} {a b : Expr} {fa fb : Ev → R D} {pos : Pos}
theorem em_dict {keys : List (Option Expr)} {values : List Expr} (C : CxOk X G N k E) (kvs : List (String × String)) (h : ∀ i, PPs (X i) pos keys values (trK kvs)) (hall : keys.all (·.isSome) = true) (hl : keys.length = values.length) (h0 : keys ≠ []) (h15 : keys.length ≤ 15) (h16 : kvs.length ≤ 15)
    (hm : mergeK [] (conK kvs) = conK kvs) : EM X G E m O (.Dict keys values pos) (eDict kvs) := by
  refine ⟨tDisp (trK kvs), fun i => pe_disp (h i) hall hl h0 h15, fun F0 H0 F σ H env Q rl h => ?_⟩
  intro p hp
  refine tPairs_con kvs ⟨upd_same, conK kvs, rfl, by simpa [conK] using h16, ?_⟩
  rw [hm, upd_upd]
  refine post_new h rl.ext.i hp ⟨p, kvs.map fun p => .str (mkS p.2.toList), rfl, ?_, ?_⟩
  · rw [← conK_zip]; exact upd_same
  · have := RepL.strs (G := G) (F := upd (wd m F H) p (.dK (conK kvs))) (kvs.map fun p => p.2.toList)
    rw [List.map_map, List.map_map] at this
    exact this
theorem em_dget [Calm G] (C : CxOk X G N k E) (ha : EM X G E m O a fa) (hb : EM X G E false O b fb) (hs : NoSl b) : EM X G E m O (.Subscript a b pos) (eOp dGetD fa fb) := by
  obtain ⟨ta, pa, ra⟩ := ha.ex
  obtain ⟨tb, pb, rb⟩ := hb.ex
  refine ⟨tDGet ta tb, fun i => pe_dget (hu_of (C.room i)) (pa i) (pb i) hs, fun F0 H0 F σ H env Q rl h => ?_⟩
  refine ra F0 H0 F σ H env _ rl (PostG.bind antiM h fun x vx F1 H1 e1 r1 h1 => ?_)
  refine rb F0 H0 F1 σ H1 env _ (rl.grow e1) (PostG.bind antiM h1 fun y vy F2 H2 e2 r2 h2 => ?_)
  cases x <;> first | exact h2.elim | skip
  obtain ⟨p, xs, rfl, q1, q2⟩ := (Rep.mono (wd_mono e2) _ _ r1)
  simp only [dGetD] at h2
  split at h2
  · rename_i z hz
    split at h2
    · rename_i d hd
      obtain ⟨v, hv, rv⟩ := look_rep q2 hd
      refine ⟨p, v, rfl, ?_, h2 v F2 H2 (.refl e2.i) rv⟩
      rw [key_rep r2 hz, ← hv]
      exact DGet.k (wd_sub e2.i _ _ q1)
    · exact h2.elim
  · exact h2.elim
end
end G81

/-! Defs called with an exception at hand. -/
namespace G81
open PySem PySem.Spec PyProof.Rows L2

/-- a def that is called where an exception is handled, with that exception -/
structure FnE (P : Program) (w : World) (K : PySem.W.Frag) (mg : Str → Option Value) (base : Heap) (k : Nat) (f : Addr) (fd : FuncData) (ps : List Str) (sp : Addr × Obj → Sp) : Prop where
  len : ∀ p vs H Q E, sp p vs H Q E → vs.length = ps.length
  run : ∀ (A : Around) (outer : List Env) (s : Shared) (H : Hp) (args : Args) (us : List Value) (vs : List V) (Q : VK) (E : XK) (p : Addr × Obj), L2H.RoomH k A → L2H.PinOk outer H s p → Env0 P w K mg base A outer s H → BindsTo s fd args (ps.zip us) → Vals vs us → sp p vs H Q E →
    codeAny (model P w) A (.call (.ref f) args) (CR (L2.CX P w) outer P w H s Q E) s
theorem fn_ofE {P : Program} {w : World} {K : PySem.W.Frag} {mg : Str → Option Value} {base : Heap} {k : Nat} {f : Addr} {name qual : Str} {params : Arguments} {body : List Stmt} {scope : Scope} {dV kV doc pm cdv ct oc : Value} {an od : Option Addr}
    {osl : Array (Option Value)} {N ps : List Str} {sp : Addr × Obj → Sp} (lk : K.lookup f = some ⟨oc, od, .func (PySem.W.fnOf name qual params body scope dV kV doc pm an cdv ct), osl⟩) (hcd : PySem.W.codeIn K cdv qual = true) (S : FnScope N ps scope)
    (len : ∀ p vs H Q E, sp p vs H Q E → vs.length = ps.length)
    (hbody : ∀ (A : Around) (outer : List Env) (s : Shared) (H : Hp) (vs : List V) (Q : VK) (E : XK) (p : Addr × Obj), L2H.RoomH k (A.deeper (envOfC qual scope s.heap.objs.size f cdv)) → sp p vs H Q E →
      ∃ t, PSs (L2H.cxH (L2.CX P w) P w K mg base N qual scope f cdv A outer s H E p) body t ∧ t { nx := fun _ H' => Q .non H', rt := Q } (L2.start N vs) H) :
    FnE P w K mg base (k + 1) f (PySem.W.fnOf name qual params body scope dV kV doc pm an cdv ct) ps sp := by
  constructor
  · exact len
  · intro A outer s H args us vs Q E p room pin env0 bt rel want
    have old := fun (b : Addr) (o : Obj) (e : base.get? b = some o) => (env0.bs b o e).1
    have inK := env0.mod.kin.keeps old
    obtain ⟨t, pt, rd⟩ := hbody A outer s H vs Q E p (room.deeper _) want
    have slots : ∀ y ∈ ps.zip us, scope.names.lookup y.1 = some .local ∨ (scope.names.lookup y.1 = some .cell ∧ ((cellsFrom (s.heap.objs.size + 1) scope.names []).lookup y.1).isSome = true) := by
      rintro ⟨n, v⟩ hy
      exact (S.par n (List.of_mem_zip hy).1).elim Or.inl fun z => Or.inr ⟨z, PySem.W.cellsFrom_some _ _ _ (Or.inl z)⟩
    apply codeAny_call_function room.depth (inK _ _ lk) rfl S.co S.gen rfl (PySem.W.codeRec_of inK hcd)
    apply bt
    apply wpAny_newFunctionEnv_cells S.kind slots
    rintro env rfl s1 new
    refine ⟨(env0.mod.nolimit.keeps old).keeps new.toInCall.keep, codeAny_func (wpAny_mono (pt.run [] s1 (L2.start N vs) H _ (L2H.inv_startH S pin env0 (len _ _ _ _ _ want) rel new) rd) ?_ fun _ _ z => z)⟩
    intro fl s2 end2
    cases fl with
    | next => obtain ⟨_, H2, J, q⟩ := end2; exact ⟨V.non, H2, J.os, J.bare, J.base, J.hok, rfl, q⟩
    | ret u => obtain ⟨v, _, H2, J, rv, q⟩ := end2; exact ⟨v, H2, J.os, J.bare, J.base, J.hok, rv, q⟩
    | brk => obtain ⟨_, _, _, z⟩ := end2; exact z.elim
    | cont => obtain ⟨_, _, _, z⟩ := end2; exact z.elim

/-- with the exception of the class c at a -/
def Gh (G : Gx) (a : Addr) (c : Str) : Gx := { G with cm := false, exs := fun b d => b = a ∧ d = c }
def spX (G : Gx) (g : List D → R D) : Addr × Obj → Sp := fun p vs H Q E => ∃ c C F, G.mg c = some (.ref C) ∧ Zc (.ref C) none p.2 ∧ (∃ ws, p.2.data = .fields ws) ∧ Same F H ∧ vs = [.ref p.1] ∧
  PostG (Gh G p.1 c) E (relM (Gh G p.1 c) true) F H (g [.exc c]) Q
structure FnX (G : Gx) (k : Nat) (x : Str) (g : List D → R D) : Prop where
  ex : ∃ f fd ps, FnE G.P G.w G.K G.mg G.base k f fd ps (spX G g) ∧ G.mg x = some (.ref f) ∧ PySem.W.keepIn G.K (.ref f) = true ∧ Binds G.K fd ps []
abbrev cxHU (G : Gx) (N : List Str) (qual : Str) (sc : Scope) (f : Addr) (cdv : Value) (A : Around) (outer : List Env) (s : Shared) (H : Hp) (E : XK) (p : Addr × Obj) : Unit → Cx :=
  fun _ => L2H.cxH (L2.CX G.P G.w) G.P G.w G.K G.mg G.base N qual sc f cdv A outer s H E p
theorem sx_mkH {G : Gx} {N : List Str} {qual : Str} {sc : Scope} {f : Addr} {cdv : Value} {A : Around} {outer : List Env} {s : Shared} {H : Hp} {E : XK} {k : Nat} {p : Addr × Obj} {c : Str} {C : Addr} (nd : N.Nodup) (hr : L2H.RoomH k (A.deeper (envOfC qual sc s.heap.objs.size f cdv)))
    (h1 : G.mg c = some (.ref C)) (h2 : Zc (.ref C) none p.2) (h3 : ∃ ws, p.2.data = .fields ws) : SxOk (cxHU G N qual sc f cdv A outer s H E p) (Gh G p.1 c) N k E := by
  have tk : Takes (cxHU G N qual sc f cdv A outer s H E p ()) (fun c d _ H => E c d H) := takes_of rfl rfl rfl rfl
  refine ⟨⟨nd, fun _ => rfl, fun _ => rfl, fun _ => rfl, fun _ => rfl, fun _ => rfl, fun _ => rfl, fun z => Bool.noConfusion (show false = true from z), fun z => Bool.noConfusion (show false = true from z), fun _ => ?_, fun _ a d h => ?_, fun _ => passes_call tk fun _ _ _ _ h => h⟩, fun _ => passes_of rfl, fun _ => tk⟩
  · have := hr.un
    show (A.deeper _).units + 65 < _
    omega
  · obtain ⟨rfl, rfl⟩ := (show a = p.1 ∧ d = c from h)
    exact ⟨C, p.2, h1, List.mem_singleton.mpr rfl, h2, h3⟩
theorem fn_okX {G : Gx} {x qual : Str} {st : Stmt} {f : Addr} {fd : FuncData} {N ps : List Str} {k : Nat} {O' : List Nat} {fb : Ev → Out} (F : Fun G.K x qual st f fd) (Sc : FnScope N ps (defScope st)) (hn : ps.length = 1) (hb : Binds G.K fd ps []) (hm : G.mg x = some (.ref f))
    (body : ∀ (cdv : Value) (A : Around) (outer : List Env) (s : Shared) (H : Hp) (E : XK) (p : Addr × Obj) (c : Str), SxOk (cxHU G N qual (defScope st) f cdv A outer s H E p) (Gh G p.1 c) N k E → BM (cxHU G N qual (defScope st) f cdv A outer s H E p) (Gh G p.1 c) E false [] O' (defBody st) fb) :
    FnX G (k + 1) x (fun ds => toR false (fb (startE N ds))) := by
  obtain ⟨oc, od, kV, doc, pm, an, cdv, ct, osl, rfl, lk, hcd⟩ := F.ex
  have kp := F.kp
  refine ⟨f, _, ps, fn_ofE lk hcd Sc (fun p vs H Q E h => ?_) (fun A outer s H vs Q E p hr h => ?_), hm, kp, hb⟩
  · obtain ⟨c, C, F, h1, h2, h3, h4, h5, h6⟩ := h
    rw [h5, hn]; rfl
  · obtain ⟨c, C, F1, h1, h2, h3, i, rfl, hp⟩ := h
    obtain ⟨t, ht, rd⟩ := (body cdv A outer s H E p c (sx_mkH Sc.nd hr h1 h2 h3)).ex
    refine ⟨t, ht (), rd F1 H F1 (L2.start N [.ref p.1]) H (startE N [.exc c]) _ (rel_start i ⟨_, _, rfl, ⟨_, rfl, rfl, rfl⟩, rfl⟩) ?_⟩
    have hp : PostG (Gh G p.1 c) E (relM (Gh G p.1 c) true) F1 H (toR false (fb (startE N [.exc c]))) Q := hp
    cases hf : fb (startE N [.exc c]) with
    | nx e =>
      rw [hf] at hp
      exact fun F' σ' H' s' r' => hp .non F' H' r'.ext rfl
    | rt d => rw [hf] at hp; exact fun v F' H' e rv => hp v F' H' e rv
    | er c => rw [hf] at hp; exact hp
    | bad => rw [hf] at hp; exact hp
end G81

/-! try, except. -/
namespace G81
open PySem PySem.Spec PyProof.Rows L2

mutual
/-- no exception within -/
def noX : D → Bool
  | .lst l => noXL l
  | .tup l => noXL l
  | .dic _ vs => noXL vs
  | .exc _ => false
  | _ => true
def noXL : List D → Bool
  | [] => true
  | d :: ds => noX d && noXL ds
end
mutual
theorem Rep.out {G : Gx} {p : Addr} {c : Str} {F : Hp} : ∀ (d : D) (v : V), noX d = true → Rep (Gh G p c) F d v → Rep G F d v
  | .non, _, _, h => h
  | .bl _, _, _, h => h
  | .int _, _, _, h => h
  | .str _, _, _, h => h
  | .lst l, _, q, ⟨a, xs, e1, e2, h⟩ => ⟨a, xs, e1, e2, RepL.out l xs q h⟩
  | .tup l, _, q, ⟨a, xs, e1, e2, h⟩ => ⟨a, xs, e1, e2, RepL.out l xs q h⟩
  | .scr l, _, _, h => h
  | .dic ks vs, _, q, ⟨a, xs, e1, e2, h⟩ => ⟨a, xs, e1, e2, RepL.out vs xs q h⟩
  | .exc c, _, q, h => by cases q
  | .fn x, _, _, h => h
theorem RepL.out {G : Gx} {p : Addr} {c : Str} {F : Hp} : ∀ (l : List D) (xs : List V), noXL l = true → RepL (Gh G p c) F l xs → RepL G F l xs
  | [], _, _, h => h
  | d :: ds, _, q, ⟨v, vs, e1, h1, h2⟩ => by
    have q : (noX d && noXL ds) = true := q
    rw [Bool.and_eq_true] at q
    exact ⟨v, vs, e1, Rep.out d v q.1 h1, RepL.out ds vs q.2 h2⟩
end

/-- a call with the exception in an except suite -/
theorem pe_callE {X : Cx} {G : Gx} {k k' : Nat} {a : Addr} {oe : Obj} {pn : List (Addr × Obj)} {y n : Str} {i : Nat} {g : List D → R D} {q np pos : Pos} (eP : X.prog = G.P) (ew : X.w = G.w) (eK : X.K = G.K) (emg : X.mg = G.mg) (eb : X.base = G.base)
    (hr : L2H.RoomH k X.A) (hk : k' ≤ k) (F : FnX G k' y g) (hg : Gl X y) (hN : X.N[i]? = some n) (hv : Vis X.env.scope n) (hdb : (y == ("__debug__" : Str)) = false) (hd : (n == ("__debug__" : Str)) = false) (hcd : (n == ("__classdict__" : Str)) = false)
    (hs : starEach [.Name n np] (X.suite a ((a, oe) :: pn)).env = (false, eval (.Name n np) (X.suite a ((a, oe) :: pn)).env) :: starEach [] (X.suite a ((a, oe) :: pn)).env) :
    PE (X.suite a ((a, oe) :: pn)) (.Call (.Name y q) [.Name n np] [] pos) (fun σ H Q => σ[i]? = some (some (.ref a)) ∧ spX G g (a, oe) [.ref a] H Q (fun _ _ _ => False)) := by
  obtain ⟨P, w, K, mg, base, cm, exs⟩ := G
  subst eP ew eK emg eb
  obtain ⟨f, fd, ps, ok, hm, kp, hb⟩ := F.ex
  refine ⟨fun pins s σ H Q I h => ?_⟩
  obtain ⟨h1, h2⟩ := h
  have ha : PA (X.suite a ((a, oe) :: pn)) [.Name n np] (tCons (tVar i) tNil) := pa_cons (pe_var hN hv hd hcd) pa_nil hs
  refine wpAny_Call_Name_kw (ld_glob I hg hm ?_ hdb)
  refine PySem.W.callWith_K (h₀ := X.base) I.ok.mod.kin kp (thn (ha.run pos pins s σ H (fun vs H1 => vs = [.ref a] ∧ H1 = H) I ⟨_, h1, rfl, rfl⟩) fun us s1 ⟨vs, H1, I1, r, q⟩ => ⟨I1.kIn, ?_⟩) hs (by rfl)
  obtain ⟨rfl, rfl⟩ := q
  have hp : (a, oe) ∈ (X.suite a ((a, oe) :: pn)).pn ++ pins := List.mem_append_left _ List.mem_cons_self
  have hl : us.length = ps.length := by rw [← r.length]; exact ok.len _ _ _ _ _ h2
  have b := hb s1 us I1.kIn (by rw [List.append_nil]; exact hl)
  rw [List.append_nil] at b
  have P1 := I1.pin (a, oe) hp
  have hpin : L2H.PinOk X.stack H1 s1 (a, oe) := ⟨P1.1, P1.2.1, fun hm => (List.mem_cons.mp (I1.stkSub a hm)).elim P1.2.2.1 P1.2.2.2.1, P1.2.2.2.2⟩
  have hr' : L2H.RoomH k' (X.suite a ((a, oe) :: pn)).A := L2H.RoomH.mono ⟨hr.dp, hr.un⟩ hk
  refine wpAny_call (codeAny_mono (ok.run (X.suite a ((a, oe) :: pn)).A X.stack s1 H1 ⟨us, []⟩ us [.ref a] Q (fun _ _ _ => False) (a, oe) hr' hpin I1.env0 b r h2) fun r s' hq => ?_)
  cases r with
  | error e =>
    obtain ⟨_, _, _, _, _, _, _, _, _, _, _, _, z⟩ := (show L2.CX X.prog X.w X.stack H1 s1 (fun _ _ _ => False) e s' from hq)
    exact z.elim
  | ok fl =>
    cases fl with
    | ret u => exact I1.after hq
    | next => exact False.elim hq
    | brk => exact False.elim hq
    | cont => exact False.elim hq

/-- a class below another one -/
structure SubX (G : Gx) (c x : Str) : Prop where
  ex : ∃ C W, G.mg c = some (.ref C) ∧ G.mg x = some (.ref W) ∧ PySem.W.exmOne G.K (.ref C) (.ref W) = some true
def sTry (cs : List Str) (f : Ev → Out) (g : List D → R D) : Ev → Out := fun env => match f env with
  | .er c => if c ∈ cs then (match g [.exc c] with
      | .ok d => if noX d = true then .rt d else .bad
      | _ => .bad) else .bad
  | o => o
/-- the contexts of a try's body -/
structure TrI {ι : Type} (X : ι → Cx) (E' : XK) where
  i : ι
  pn : List (Addr × Obj)
  xe : Value → Shared → Prop
  tk : Takes ((X i).tr pn xe) (fun c d _ H => E' c d H)
  po : PassesOwn (model (X i).prog (X i).w) (X i).A (X i).env xe
abbrev trF {ι : Type} (X : ι → Cx) (E' : XK) : TrI X E' → Cx := fun p => (X p.i).tr p.pn p.xe
theorem SxOk.tr {ι : Type} {X : ι → Cx} {G : Gx} {N : List Str} {k : Nat} {E : XK} [Calm G] (C : SxOk X G N k E) (E' : XK) : SxOk (trF X E') G N k E' :=
  ⟨⟨C.c.nd, fun p => C.c.eP p.i, fun p => C.c.ew p.i, fun p => C.c.eK p.i, fun p => C.c.emg p.i, fun p => C.c.ebase p.i, fun p => C.c.eN p.i, fun h p => C.c.calm' h p.i, fun h p => C.c.room' h p.i, fun p => C.c.units p.i, fun _ a c h => absurd h (Calm.e a c), fun p => passes_call p.tk fun _ _ _ _ h => h⟩, fun p => p.po, fun p => p.tk⟩
theorem Takes.len {X : Cx} {W W' : WX} (t : Takes X W) (h : ∀ c d σ H, σ.length = X.N.length → W' c d σ H → W c d σ H) : Takes X W' := fun u s' ⟨a, B, sI, pins, σ, H, cls, d, e, I, nb, up, sky, na, os, ag, w⟩ =>
  t u s' ⟨a, B, sI, pins, σ, H, cls, d, e, I, nb, up, sky, na, os, ag, h _ _ _ _ I.len w⟩
section
variable {ι : Type} {X : ι → Cx} {G : Gx} {E : XK} {N : List Str} {k : Nat} {O O' : List Nat} {pos : Pos}
theorem sm_try [Calm G] (C : SxOk X G N k E) {body : List Stmt} {f : Ev → Out} {g : List D → R D} {x n y : Str} {i k' : Nat} {cs : List Str} {np yp np2 cp rp pos' : Pos} (hsub : ∀ c ∈ cs, SubX G c x) (hx : ∀ j, Gl (X j) x) (hW : ∃ W, G.mg x = some (.ref W))
    (F : FnX G k' y g) (hk : decide (k' ≤ k) = true) (hy : ∀ j, Gl (X j) y) (hi : N[i]? = some n) (hv : ∀ j, Vis (X j).env.scope n) (hln : ∀ j, (X j).env.kindOf n = some .local)
    (hb : ∀ E' : XK, SxOk (trF X E') G N k E' → BM (trF X E') G E' false [] O' body f) (hs : ∀ j, (X j).stack = (X j).env :: (X j).outer := by intro _; rfl) (hf : ∀ j, (X j).env.frame = some (X j).env.locals := by intro _; rfl)
    (hst : ∀ j, starEach [.Name n np2] (X j).env = (false, eval (.Name n np2) (X j).env) :: starEach [] (X j).env := by intro _; rfl)
    (hxd : (x == ("__debug__" : Str)) = false := by decide) (hyd : (y == ("__debug__" : Str)) = false := by decide) (hnd : (n == ("__debug__" : Str)) = false := by decide) (hnc : (n == ("__classdict__" : Str)) = false := by decide) :
    SM X G E false [] O' (.Try body [.ExceptHandler (some (.Name x np)) (some n) [.Return (some (.Call (.Name y yp) [.Name n np2] [] cp)) rp] pos'] [] [] pos) (sTry cs f g) := by
  obtain ⟨W, hW⟩ := hW
  let ts : Addr → Value → Option Addr → TS := fun a cls d D σ H => σ[i]? = some (some (.ref a)) ∧ d = none ∧ ∃ c C F, cls = .ref C ∧ G.mg c = some (.ref C) ∧ Same F H ∧ PostG (Gh G a c) (fun _ _ _ => False) (relM (Gh G a c) true) F H (g [.exc c]) D.rt
  let EW : WX → XK := fun W c d H => ∀ σ : L2.St, σ.length = N.length → W c d σ H
  have hbE : ∀ E' : XK, ∃ t : TS, (∀ p : TrI X E', PSs (trF X E' p) body t) ∧ ∀ F0 H0 F σ H env D, Rel G F0 H0 [] F σ H env → SPost G E' false F0 H0 O' F (f env) D → t D σ H := fun E' => (hb E' (C.tr E')).ex
  let tb : WX → TS := fun W => Classical.choose (hbE (EW W))
  refine ⟨fun D σ H => tb (wAs G.K (.ref W) i ts (fun c d _ H => E c d H) D) D σ H, fun j => ?_, fun F0 H0 F σ H env D rl h => ?_⟩
  · have q := ps_try_as (X := X j) (x := x) (n := n) (c := .ref W) (i := i) (body := body) (b₀ := .Return (some (.Call (.Name y yp) [.Name n np2] [] cp)) rp) (suite := []) (np := np) (pos := pos) (pos' := pos') (tb := tb) (ts := ts)
      (Wout := fun c d _ H => E c d H) (hs j) (hf j) (by rw [C.c.eN j]; exact C.c.nd) (by rw [C.c.eN j]; exact hi) (hln j) ⟨hx j, hxd, .inl (by rw [C.c.emg j]; exact hW)⟩ (C.tk j)
      (fun W pn xe tk po => (Classical.choose_spec (hbE (EW W))).1 ⟨j, pn, xe, Takes.len tk (fun c d σ H hl hw => hw σ (by rw [hl]; exact congrArg List.length (C.c.eN j))), po⟩)
      (fun a oe cls d pn hz hfd => by
        have pr := pss_one (ps_ret (pos := rp) (pe_callE (X := X j) (G := G) (k := k) (k' := k') (a := a) (oe := oe) (pn := pn) (y := y) (n := n) (i := i) (g := g) (q := yp) (np := np2) (pos := cp) (C.c.eP j) (C.c.ew j) (C.c.eK j) (C.c.emg j) (C.c.ebase j) (L2H.roomH_of (C.c.room j)) (of_decide_eq_true hk) F (hy j)
          (by rw [C.c.eN j]; exact hi) (hv j) hyd hnd hnc (hst j)))
        refine ⟨fun pins s σ H D I h => pr.run pins s σ H D I ?_⟩
        obtain ⟨h1, rfl, c, C, F, rfl, h2, h3, h4⟩ := h
        exact ⟨h1, c, C, F, h2, hz, hfd, h3, rfl, h4⟩)
    rw [C.c.eK j] at q
    exact q
  · refine (Classical.choose_spec (hbE (EW (wAs G.K (.ref W) i ts (fun c d _ H => E c d H) D)))).2 F0 H0 F σ H env D rl ?_
    unfold sTry at h
    cases hf : f env with
    | nx e => rw [hf] at h; exact h
    | rt d => rw [hf] at h; exact h
    | bad => rw [hf] at h; exact h.elim
    | er c =>
      rw [hf] at h
      dsimp only at h
      split at h
      · rename_i hc
        obtain ⟨C1, W1, m1, m2, m3⟩ := (hsub c hc).ex
        rw [hW] at m2
        cases m2
        refine ⟨C1, m1, fun H' sH σ' hl => ⟨true, m3, fun _ a na => ⟨?_, rfl, c, C1, F0, rfl, m1, rl.ext.s.trans sH, ?_⟩, fun z => by cases z⟩⟩
        · have hlt : i < σ'.length := by rw [hl]; exact (List.getElem?_eq_some_iff.mp hi).1
          rw [List.getElem?_set_self hlt]
        · cases hg : g [.exc c] with
          | ok d =>
            rw [hg] at h
            dsimp only at h
            split at h
            · rename_i hn
              intro v F1 H1 e1 r1
              exact h v F1 H1 ⟨e1.f, sH.trans e1.h, e1.i, fun b hb => e1.n b (Same.some sH hb), rl.ext.s⟩ (Rep.out d v hn r1)
            · exact h.elim
          | err c => rw [hg] at h; exact h.elim
          | bad => rw [hg] at h; exact h.elim
      · exact h.elim
end
end G81

/-! isinstance of an exception, count and index of lists. -/
namespace G81
open PySem PySem.Spec PyProof.Rows L2

/-- what the name T holds where a class is wanted, and of which exceptions it is the class -/
structure IsT (K : PySem.W.Frag) (mg : Str → Option Value) (T : Str) (tab : List (Str × Bool)) : Prop where
  ex : ∃ (v : V) (cv : Value), (∀ u, RelV v u → u = cv) ∧ RelV v cv ∧ (mg T = some cv ∨ (mg T = none ∧ bootBuiltins T = some cv ∧ T ≠ "__name__")) ∧
    ∀ c b, (c, b) ∈ tab → ∃ C, mg c = some (.ref C) ∧ ExcC K C ∧ PySem.W.kitOne K (.ref C) cv = some b
def eIsE (tab : List (Str × Bool)) (f : Ev → R D) : Ev → R D := fun env => (f env).bind fun d => match d with
  | .exc c => (match tab.find? (fun p => decide (p.1 = c)) with
    | some p => .ok (.bl p.2)
    | none => .bad)
  | _ => .bad
section
variable {ι : Type} {X : ι → Cx} {G : Gx} {E : XK} {N : List Str} {k : Nat} {m m' : Bool} {O : List Nat} {pos apos p1 p2 : Pos} {a e : Expr} {fa fe : Ev → R D} {T : Str}
def rIsX (G : Gx) (v : V) (tab : List (Str × Bool)) : List V → Hp → VK → Prop := fun xs H Q => ∃ a c b, G.exs a c ∧ xs = [.ref a, v] ∧ (c, b) ∈ tab ∧ Q (.bl b) H
theorem em_isE (C : CxOk X G N k E) {tab : List (Str × Bool)} (hT : IsT G.K G.mg T tab) (hg : ∀ i, Gl (X i) "isinstance") (hm : G.mg "isinstance" = none) (hg2 : ∀ i, Gl (X i) T) (ha : EM X G E false O a fa) (hdb2 : (T == ("__debug__" : Str)) = false := by decide)
    (he : ∀ i, starEach [a, .Name T p2] (X i).env = (false, eval a (X i).env) :: starEach [.Name T p2] (X i).env := by intro _; rfl) (he2 : ∀ i, starEach [.Name T p2] (X i).env = (false, eval (.Name T p2) (X i).env) :: starEach [] (X i).env := by intro _; rfl) (hpl : ∀ i, (backTo pos (starEach [.Name T p2] (X i).env)).any (·.1) = false := by intro _; rfl) :
    EM X G E m O (.Call (.Name "isinstance" p1) [a, .Name T p2] [] pos) (eIsE tab fa) := by
  obtain ⟨ta, pa, ra⟩ := ha.ex
  obtain ⟨v, cv, h1, h2, h3, h4⟩ := hT.ex
  have hc : ∀ i, CallR (X i) (.builtin "isinstance") (rIsX G v tab) := by
    intro i pins s σ H xs us Q I r h
    obtain ⟨x, c, b, hx, rfl, hb, q⟩ := h
    obtain ⟨C1, oe, m1, hp, hz, ws, hw⟩ := C.exs i x c hx
    obtain ⟨C2, m2, hC, e⟩ := h4 c b hb
    rw [m1] at m2
    cases m2
    cases r with
    | cons rx rr =>
      cases rr with
      | cons rt rr =>
        cases rr
        cases rx
        have ec := h1 _ rt
        subst ec
        obtain ⟨hget, _⟩ := I.pin (x, oe) (List.mem_append_left _ hp)
        have J : PySem.W.InstAt s.heap x oe C1 none := by
          obtain ⟨oc, od, oda, osl⟩ := oe
          obtain ⟨z1, z2⟩ := hz
          dsimp only at z1 z2 hw
          subst z1 z2 hw
          exact ⟨hget, rfl, rfl, trivial⟩
        have hK := C.eK i
        rw [← hK] at hC e
        exact PySem.W.kia_one (PySem.W.handS_kitx_exc hC.hg hC.hk hC.hs hC.hd hC.ha hC.hn hC.ht hC.hm) I.kIn J e (fun z => nomatch z) fun tk => ⟨.bl b, H, I.kept (t' := tk) fun _ _ z => z, rfl, q⟩
  have hT' : ∀ i, PE (X i) (.Name T p2) (tC v) := fun i => by
    rcases h3 with z | ⟨z1, z2, z3⟩
    · exact pe_glob (hg2 i) (by rw [C.emg i]; exact z) h2 hdb2
    · exact pe_bltn (hg2 i) (by rw [C.emg i]; exact z1) z2 h2 z3 hdb2
  refine ⟨tCB (rIsX G v tab) (tCons ta (tCons (tC v) tNil)), fun i => pe_callB (hc i) (hg i) (by rw [C.emg i]; exact hm) (by decide +kernel)
    (pa_cons (pa i) (pa_cons (hT' i) pa_nil (he2 i)) (he i)) (by decide) (by decide) (he i) (hpl i), fun F0 H0 F σ H env Q rl h => ?_⟩
  refine ra F0 H0 F σ H env _ rl (PostG.bind antiM h fun d w F1 H1 e1 r1 h1 => ?_)
  cases d <;> first | exact h1.elim | skip
  rename_i c
  dsimp only at h1
  split at h1
  · rename_i q hq
    obtain ⟨x, rfl, hx⟩ := r1
    have hm1 := List.mem_of_find?_eq_some hq
    have hm2 : q.1 = c := by simpa using List.find?_some hq
    subst hm2
    exact ⟨x, q.1, q.2, hx, rfl, hm1, h1 _ F1 H1 (.refl e1.i) rfl⟩
  · exact h1.elim

/-! ### count, index -/
def eLm (op : List D → D → R D) (f g : Ev → R D) : Ev → R D := fun env => (f env).bind fun d => match d with
  | .lst l => (g env).bind fun b => op l b
  | _ => .bad
def dCount (l : List D) (d : D) : R D := if l.all flD = true ∧ flD d = true then .ok (.int (l.countP (fun z => eqD z d) : Nat)) else .bad
def dIndex (l : List D) (d : D) : R D := if l.all flD = true ∧ flD d = true then (match l.findIdx? (fun z => eqD z d) with
      | some j => .ok (.int (j : Nat))
      | none => .bad) else .bad
def rCntF (K : PySem.W.Frag) : V → List V → Hp → VK → Prop := fun x xs H Q => ∃ (p : Addr) (ys : List V) (y : V), x = .ref p ∧ xs = [y] ∧ SqL K H p ys ∧ flatV y = true ∧ ys.all flatV = true ∧ Q (.int (ys.countP (fun z => eqV z y) : Nat)) H
theorem count_eqU {x : V} : ∀ {xs : List V} {us : List Value}, Vals xs us → xs.all flatV = true → us.countP (eqU x) = xs.countP fun y => eqV y x
  | _, _, .nil, _ => rfl
  | y :: xs, u :: us, .cons r t, f => by
    rw [List.all_cons, Bool.and_eq_true] at f
    rw [List.countP_cons, List.countP_cons, count_eqU t f.2, eqU_of r f.1]
theorem mt_countF {X : Cx} : MtR X "list.count" (rCntF X.K) := by
  intro pins s σ H x xs v us Q I rx rxs h
  obtain ⟨p, ys, y, rfl, rfl, hs, fy, fys, q⟩ := h
  cases rx
  obtain ⟨u, rfl, ru⟩ := rxs.one
  obtain ⟨its, rv, ⟨⟨cls, dd, data, sl⟩, n, ho, hc, hdn, hd⟩, hlen⟩ := I.list hs
  simp only at hc hd
  subst hc hd
  refine call_meets PySem.F.slot_list_count ⟨_, ho, rfl⟩ PySem.F.entry_list_count (PySem.F.args_list_count_2 _ _)
    (SeqAt.list_countAt p its.toArray n dd sl u (eqU y)) ⟨ho, fun z hz => mem_eqAt ru fy rv fys z (by simpa using hz), ?_⟩
  refine ⟨.int (ys.countP (fun z => eqV z y) : Nat), H, I.tok _, ⟨s.toks, ?_⟩, q⟩
  show Value.int ((its.toArray.toList.countP (eqU y) : Nat) : Int) s.toks = _
  rw [List.toList_toArray, count_eqU rv fys]
theorem countP_rep {G : Gx} {H : Hp} {d : D} {y : V} (fd : flD d = true) (hy : Rep G H d y) : ∀ {l : List D} {ys : List V}, l.all flD = true → RepL G H l ys → ys.countP (fun z => eqV z y) = l.countP (fun z => eqD z d)
  | [], _, _, h => by cases h; rfl
  | e :: l, _, f, ⟨v, vs, e1, h1, h2⟩ => by
    subst e1
    rw [List.all_cons, Bool.and_eq_true] at f
    rw [List.countP_cons, List.countP_cons, countP_rep fd hy f.2 h2, fl_eq f.1 fd h1 hy]
theorem em_lm {id : String} {name : Str} {r : V → List V → Hp → VK → Prop} {op : List D → D → R D} (C : CxOk X G N k E) (slot : Slot "list" name id) (ty : typeOf (.builtin id) = pure (.type "method_descriptor")) (rule : ∀ i, MtR (X i) id r)
    (hr : ∀ F H l d x v Q, Same F H → Rep G H (.lst l) x → Rep G H d v → Post G E m F H (op l d) Q → r x [v] H Q)
    (ha : EM X G E false O a fa) (he : EM X G E false O e fe) (hbase : ∀ i, attributeBase a name (X i).env (eval a (X i).env) = eval a (X i).env)
    (hfew : ∀ i, ((backTo pos (starEach (e :: []) (X i).env)).all (fun x => !x.1) && (backToKw pos (keywordEach [] (X i).env)).all (fun x => x.1.isSome)
      && decide ((e :: []).length + ([] : List Keyword).length + (if ([] : List Keyword).isEmpty then 0 else 1) < 30)) = true)
    (hline : (apos.endLine == pos.line) = true) (hs : ∀ i, starEach (e :: []) (X i).env = (false, eval e (X i).env) :: starEach [] (X i).env) (hplain : ∀ i, (backTo pos (starEach [] (X i).env)).any (·.1) = false) :
    EM X G E m O (.Call (.Attribute a name apos) [e] [] pos) (eLm op fa fe) := by
  obtain ⟨ta, pa, ra⟩ := ha.ex
  obtain ⟨te, pe, re⟩ := he.ex
  refine ⟨tBM G.K "list" r ta (tCons te tNil), fun i => by
    have q := pe_bm (X := X i) PySem.F.plainAttrs_list slot ty (rule i) (pa i) (pa_cons (pe i) pa_nil (hs i)) (hbase i) (hfew i) hline (hs i) (hplain i)
    rw [C.eK i] at q
    exact q, fun F0 H0 F σ H env Q rl h => ?_⟩
  refine ra F0 H0 F σ H env _ rl (PostG.bind antiM h fun d v F1 H1 e1 r1 h1 => ?_)
  cases d <;> first | exact h1.elim | skip
  have r1' := r1
  obtain ⟨q, xs, rfl, q1, q2⟩ := r1'
  refine ⟨.inl ⟨rfl, _, SqL.of q1⟩, re F0 H0 F1 σ H1 env _ (rl.grow e1) (PostG.bind antiM h1 fun d2 w F2 H2 e2 r2 h2 => ?_)⟩
  exact hr F2 H2 _ d2 _ w Q e2.i (Rep.mono (wd_mono (m := false) e2) _ _ r1) r2 h2
theorem em_lcount (C : CxOk X G N k E) (ha : EM X G E false O a fa) (he : EM X G E false O e fe) (hbase : ∀ i, attributeBase a "count" (X i).env (eval a (X i).env) = eval a (X i).env := by intro _; rfl)
    (hfew : ∀ i, ((backTo pos (starEach (e :: []) (X i).env)).all (fun x => !x.1) && (backToKw pos (keywordEach [] (X i).env)).all (fun x => x.1.isSome)
      && decide ((e :: []).length + ([] : List Keyword).length + (if ([] : List Keyword).isEmpty then 0 else 1) < 30)) = true := by intro _; rfl)
    (hline : (apos.endLine == pos.line) = true := by rfl) (hs : ∀ i, starEach (e :: []) (X i).env = (false, eval e (X i).env) :: starEach [] (X i).env := by intro _; rfl) (hplain : ∀ i, (backTo pos (starEach [] (X i).env)).any (·.1) = false := by intro _; rfl) :
    EM X G E m O (.Call (.Attribute a "count" apos) [e] [] pos) (eLm dCount fa fe) := by
  refine em_lm C PySem.F.slot_list_count PySem.F.type_list_count (fun i => by have q := mt_countF (X := X i); rw [C.eK i] at q; exact q) (fun F H l d x v Q i rx rv h => ?_) ha he hbase hfew hline hs hplain
  unfold dCount at h
  split at h
  · rename_i hf
    obtain ⟨q, xs, rfl, q1, q2⟩ := rx
    refine ⟨q, xs, v, rfl, rfl, SqL.of q1, fl_flat hf.2 rv, fls_flat hf.1 q2, ?_⟩
    rw [countP_rep hf.2 rv hf.1 q2]
    exact h _ F H (.refl i) rfl
  · exact h.elim
theorem em_lindex (C : CxOk X G N k E) (ha : EM X G E false O a fa) (he : EM X G E false O e fe) (hbase : ∀ i, attributeBase a "index" (X i).env (eval a (X i).env) = eval a (X i).env := by intro _; rfl)
    (hfew : ∀ i, ((backTo pos (starEach (e :: []) (X i).env)).all (fun x => !x.1) && (backToKw pos (keywordEach [] (X i).env)).all (fun x => x.1.isSome)
      && decide ((e :: []).length + ([] : List Keyword).length + (if ([] : List Keyword).isEmpty then 0 else 1) < 30)) = true := by intro _; rfl)
    (hline : (apos.endLine == pos.line) = true := by rfl) (hs : ∀ i, starEach (e :: []) (X i).env = (false, eval e (X i).env) :: starEach [] (X i).env := by intro _; rfl) (hplain : ∀ i, (backTo pos (starEach [] (X i).env)).any (·.1) = false := by intro _; rfl) :
    EM X G E m O (.Call (.Attribute a "index" apos) [e] [] pos) (eLm dIndex fa fe) := by
  refine em_lm C PySem.F.slot_list_index PySem.F.type_list_index (fun i => by have q := mt_index (X := X i); rw [C.eK i] at q; exact q) (fun F H l d x v Q i rx rv h => ?_) ha he hbase hfew hline hs hplain
  unfold dIndex at h
  split at h
  · rename_i hf
    split at h
    · rename_i j hj
      obtain ⟨q, xs, rfl, q1, q2⟩ := rx
      obtain ⟨hlt, hp, hno⟩ := List.findIdx?_eq_some_iff_getElem.mp hj
      obtain ⟨z, hz, rz⟩ := q2.get (i := j) (List.getElem?_eq_getElem hlt)
      have fl : ∀ (i : Nat) (h : i < l.length), flD l[i] = true := fun i h => List.all_eq_true.mp hf.1 _ (List.getElem_mem h)
      refine ⟨q, xs, v, j, z, rfl, rfl, SqL.of q1, fl_flat hf.2 rv, fls_flat hf.1 q2, hz, by rw [fl_eq (fl j hlt) hf.2 rz rv]; exact hp, fun m z' hm hz' => ?_, h _ F H (.refl i) rfl⟩
      have hml : m < l.length := by omega
      obtain ⟨z2, e2, rz2⟩ := q2.get (i := m) (List.getElem?_eq_getElem hml)
      rw [hz'] at e2
      cases e2
      rw [fl_eq (fl m hml) hf.2 rz2 rv]
      simpa using hno m hm
    · exact h.elim
  · exact h.elim
end
end G81

/-! Facts of exception classes at a law's end. -/
namespace G81
open PySem PySem.Spec PyProof.Rows L2
theorem kit_own {K : PySem.W.Frag} {C W : Addr} {b : Bool} (h1 : PySem.W.isClsIn K W = true) (h2 : PySem.W.typeIn K (.ref W) = some (.type "type")) (h3 : PySem.W.subIn K (.ref C) (.ref W) = some b) (h4 : C = W → b = true) : PySem.W.kitOne K (.ref C) (.ref W) = some b := by
  unfold PySem.W.kitOne
  by_cases e : C = W
  · rw [if_pos (by rw [e]; exact beq_self_eq_true _), h4 e]
  · rw [if_neg (fun z => e (Value.ref.inj (beq_iff_eq.mp z)))]
    show (if ((PySem.W.clsIn K W).isSome && PySem.W.typeIn K (.ref W) == some (.type "type")) = true then PySem.W.subIn K (.ref C) (.ref W) else none) = some b
    have h1 : (PySem.W.clsIn K W).isSome = true := h1
    rw [h1, h2, if_pos (by simp)]
    exact h3
theorem kit_blt {K : PySem.W.Frag} {C : Addr} {T : String} {b : Bool} (h1 : PySem.W.kitMeta T = true) (h3 : PySem.W.subIn K (.ref C) (.type T) = some b) : PySem.W.kitOne K (.ref C) (.type T) = some b := by
  unfold PySem.W.kitOne
  have e : (Value.ref C == Value.type T) = false := beq_eq_false_iff_ne.mpr (fun z => by cases z)
  rw [e, if_neg Bool.false_ne_true]
  show (if PySem.W.kitMeta T = true then PySem.W.subIn K (.ref C) (.type T) else none) = some b
  rw [if_pos h1]
  exact h3
/-- an exception class as isinstance reads it -/
structure ExCK (K : PySem.W.Frag) (mg : Str → Option Value) (c : Str) (C : Addr) : Prop where
  n : mg c = some (.ref C)
  e : ExcC K C
theorem exCK_mk {K : PySem.W.Frag} {h : Heap} {mg : Str → Option Value} {c : Str} {C : Addr} (X : K.In h) (G : h.Ns mainGlobals mg) (n : PySem.W.nsIn K mainGlobals c = some (some (.ref C)))
    (h1 : PySem.W.findIn K (.ref C) "__getattribute__" = some (some (.builtin "BaseException.__getattribute__"))) (h2 : PySem.W.findIn K (.ref C) "__getattr__" = some none) (h3 : PySem.W.subIn K (.ref C) (.type "BaseException") = some true)
    (h4 : PySem.W.hasDictIn K C = true) (h5 : PySem.W.findIn K (.ref C) "__class__" = some (some (.builtin "object.__class__"))) (h6 : PySem.W.specialIn K (.builtin "object.__class__") "__get__" = some (some (.builtin "getset_descriptor.__get__")))
    (h7 : PySem.W.takesIn K (.builtin "object.__class__") = some true) (h8 : PySem.W.mroIn K C (.type "object") = some true) : ExCK K mg c C := ⟨PySem.W.mg_of X G n, ⟨h1, h2, h3, h4, h5, h6, h7, h8⟩⟩
def TabK (K : PySem.W.Frag) (mg : Str → Option Value) (cv : Value) (tab : List (Str × Bool)) : Prop := ∀ c b, (c, b) ∈ tab → ∃ C, mg c = some (.ref C) ∧ ExcC K C ∧ PySem.W.kitOne K (.ref C) cv = some b
theorem tab_nil {K : PySem.W.Frag} {mg : Str → Option Value} {cv : Value} : TabK K mg cv [] := fun c b h => by cases h
theorem tab_cons {K : PySem.W.Frag} {mg : Str → Option Value} {cv : Value} {c : Str} {C : Addr} {b : Bool} {tab : List (Str × Bool)} (h1 : ExCK K mg c C) (h2 : PySem.W.kitOne K (.ref C) cv = some b) (h3 : TabK K mg cv tab) : TabK K mg cv ((c, b) :: tab) := fun c' b' h => by
  rcases List.mem_cons.mp h with h | h
  · cases h; exact ⟨C, h1.n, h1.e, h2⟩
  · exact h3 c' b' h
theorem isT_own {K : PySem.W.Frag} {h : Heap} {mg : Str → Option Value} {T : Str} {W : Addr} {tab : List (Str × Bool)} (X : K.In h) (G : h.Ns mainGlobals mg) (n : PySem.W.nsIn K mainGlobals T = some (some (.ref W))) (t : TabK K mg (.ref W) tab) : IsT K mg T tab :=
  ⟨.ref W, .ref W, fun u r => r, rfl, .inl (PySem.W.mg_of X G n), t⟩
theorem isT_blt {K : PySem.W.Frag} {mg : Str → Option Value} {T : Str} {t : String} {tab : List (Str × Bool)} (n : mg T = none) (hb : bootBuiltins T = some (.type t)) (hn : T ≠ "__name__") (tb : TabK K mg (.type t) tab) : IsT K mg T tab :=
  ⟨.ty t, .type t, fun u r => r, rfl, .inr ⟨n, hb, hn⟩, tb⟩
structure SubK (K : PySem.W.Frag) (mg : Str → Option Value) (c x : Str) : Prop where
  ex : ∃ C W, mg c = some (.ref C) ∧ mg x = some (.ref W) ∧ PySem.W.exmOne K (.ref C) (.ref W) = some true
theorem subK_mk {K : PySem.W.Frag} {h : Heap} {mg : Str → Option Value} {c x : Str} {C W : Addr} (X : K.In h) (G : h.Ns mainGlobals mg) (n : PySem.W.nsIn K mainGlobals c = some (some (.ref C))) (n' : PySem.W.nsIn K mainGlobals x = some (some (.ref W)))
    (h1 : PySem.W.subIn K (.ref W) (.type "BaseException") = some true) (h2 : PySem.W.hasDictIn K W = true) (h3 : PySem.W.typeIn K (.ref W) = some (.type "type")) (h4 : PySem.W.subIn K (.ref C) (.ref W) = some true) : SubK K mg c x :=
  ⟨C, W, PySem.W.mg_of X G n, PySem.W.mg_of X G n', PySem.W.exm_ref h1 h2 h3 h4⟩
theorem SubK.m {G : Gx} {c x : Str} (h : SubK G.K G.mg c x) : SubX G c x := ⟨h.ex⟩
theorem subs_nil {G : Gx} {x : Str} : ∀ c ∈ ([] : List Str), SubX G c x := fun c h => by cases h
theorem subs_cons {G : Gx} {c x : Str} {cs : List Str} (h : SubX G c x) (t : ∀ c ∈ cs, SubX G c x) : ∀ d ∈ c :: cs, SubX G d x := fun d hd => by
  rcases List.mem_cons.mp hd with e | e
  · rw [e]; exact h
  · exact t d e
theorem SubX.w {G : Gx} {c x : Str} (h : SubX G c x) : ∃ W, G.mg x = some (.ref W) := let ⟨_, W, _, e, _⟩ := h.ex; ⟨W, e⟩
end G81

/-! enumerate over a zip of two lists. -/
namespace G81
open PySem PySem.Spec PyProof.Rows L2

set_option maxHeartbeats 1000000 in
theorem enz_meets (z TI TO : Addr) : Meets (Builtin.«enumerate.__new__» ⟨[.type "enumerate", .ref z], []⟩) (fun _ R s => IsZip s.heap z TI TO .none ∧
    R (.ok (.ret (.ref s.heap.objs.size))) { s with heap := s.heap.push { cls := .type "enumerate", data := .fields #[.none, .bool false, .ref z, rawInt 0, .none, .none] } }) :=
  .of_wp fun prog w A R s h => by
    rcases s with ⟨hp, g, d, tk, os⟩
    rcases h with ⟨hz, h⟩
    have known := sub_enumerate
    have itz : ∀ {A' : Around} {E Q : Value → Shared → Prop}, Q (.ref z) ⟨hp, g, d, tk, os⟩ → wpAny (model prog w) A' (pyIter (.ref z)) Q E ⟨hp, g, d, tk, os⟩ := fun q => wpAny_pyIter_zip hz q
    wp_walk using itz
    refine wpAny_stack_any fun st => wpAny_pure ?_
    split
    · rename_i c _ _ _ _ _
      cases (c == Value.type "enumerate") <;> (wp_walk using itz; exact ⟨_, rfl, h⟩)
    · wp_walk using itz
      exact ⟨_, rfl, h⟩
section
variable {prog : Program} {w : World} {A : Around} {E : Value → Shared → Prop} {s : Shared}
theorem enz_call {z TI TO : Addr} {Q : Value → Shared → Prop} (hz : IsZip s.heap z TI TO .none)
    (h : ∀ h', IsEnum h' s.heap.objs.size z 0 .none → h'.objs.size = s.heap.objs.size + 1 → (∀ b o, s.heap.get? b = some o → h'.get? b = some o) → Q (.ref s.heap.objs.size) { s with heap := h' }) :
    wpAny (model prog w) A (call (.type "enumerate") [.ref z]) Q E s := by
  have new : IsEnum (s.heap.push { cls := .type "enumerate", data := .fields #[.none, .bool false, .ref z, rawInt 0, .none, .none] }) s.heap.objs.size z 0 .none := Heap.get?_push_size _ rfl
  exact callType_new F.called_enumerate (by decide) (F.typeCall_enumerate_1 _) (F.newCall_enumerate_1 _) (fun obj => F.args_object_init_2 obj _) F.entry_enumerate_new (enz_meets z TI TO)
    ⟨hz, ⟨_, new, rfl⟩, h _ new (Heap.size_push ..) fun b o x => Heap.get?_push_of_some _ x⟩
end
end G81

/-! A zip's next item, whatever became of the tuple that it handed out. -/
namespace G81
open PySem PySem.Spec PyProof.Rows L2
/-- a zip object, with what it notes of its tuple -/
abbrev ZG (h : Heap) (z TI TO : Addr) (F0 : Value) (f : Bool) : Prop :=
  h.get? z = some { cls := .type "zip", dict := none, data := .fields #[F0, .bool f, .bool false, .ref TI, .ref TO], slots := #[] }
def ZS (h : Heap) (z TI TO : Addr) : Prop := ZG h z TI TO .none false ∨ ∃ (T : Addr) (f : Bool), ZG h z TI TO (rawInt T) f
section
variable {prog : Program} {w : World} {A : Around} {E : Value → Shared → Prop} {s : Shared} {z TI TO i1 i2 l1 l2 : Addr} {k1 k2 : Nat} {xs ys : Array Value} {F0 : Value} {f : Bool} {x y a b : Value}
theorem alive_at {T : Addr} {Q : Option Obj → Shared → Prop} (h : Q (s.heap.get? T) s) : wpAny (model prog w) A (loadIfAlive T) Q E s := fun _ _ _ => h
theorem zg_free {Q : Bool → Shared → Prop} (hz : ZG s.heap z TI TO F0 f) (hF : F0 = .none ∨ ∃ T : Addr, F0 = rawInt T ∧ s.heap.get? T = none) (h : Q true s) : wpAny (model prog w) A (Builtin.SmallTypes.ownedTupleIsFree (.ref z)) Q E s := by
  unfold Builtin.SmallTypes.ownedTupleIsFree
  apply wpAny_bind
  apply wpAny_field hz rfl (x := F0) rfl
  rcases hF with rfl | ⟨T, rfl, hT⟩
  · exact wpAny_pure h
  · apply wpAny_bind
    rw [Int.toNat_natCast]
    apply alive_at
    rw [hT]
    exact wpAny_pure h
/-- where a fresh pair is handed out -/
structure ZOut (h0 h' : Heap) (z TI TO i1 i2 l1 l2 : Addr) (k1 k2 : Nat) (x y : Value) : Prop where
  st : ZS h' z TI TO
  to : ∃ a b, IsPair h' TO a b
  j1 : h'.IsListIter i1 l1 (k1 + 1)
  j2 : h'.IsListIter i2 l2 (k2 + 1)
  pr : IsPair h' h0.objs.size x y
  sz : h'.objs.size = h0.objs.size + 1
  up : ∀ c o, c ≠ z → c ≠ TO → c ≠ i1 → c ≠ i2 → h0.get? c = some o → h'.get? c = some o
theorem zg_next_free {Q : Value → Shared → Prop} (D : ZipApart z TI TO i1 i2 l1 l2) (hz : ZG s.heap z TI TO F0 f) (hF : F0 = .none ∨ ∃ T : Addr, F0 = rawInt T ∧ s.heap.get? T = none)
    (hTI : IsPair s.heap TI (.ref i1) (.ref i2)) (hTO : IsPair s.heap TO a b) (h1 : s.heap.IsListIter i1 l1 k1) (h2 : s.heap.IsListIter i2 l2 k2) (hl1 : s.heap.IsList l1 xs) (hl2 : s.heap.IsList l2 ys) (hx : xs[k1]? = some x) (hy : ys[k2]? = some y)
    (hQ : ∀ h', ZOut s.heap h' z TI TO i1 i2 l1 l2 k1 k2 x y → Q (.ref s.heap.objs.size) { s with heap := h' }) :
    wpAny (model prog w) A (Builtin.«zip.__next__» ⟨[.ref z], []⟩) (fun fin s' => ∃ v, fin = .done (.ret v) ∧ Q v s') E s := by
  apply wpAny_bind (m := field (.ref z) 2)
  apply wpAny_field hz rfl (x := .bool false) rfl
  apply wpAny_bind (m := field (.ref z) 3)
  apply wpAny_field hz rfl (x := .ref TI) rfl
  apply wpAny_bind
  apply wpAny_seqItems hTI rfl
  apply wpAny_bind (m := Builtin.SmallTypes.ownedTupleIsFree (.ref z))
  apply zg_free hz hF
  simp only [if_true]
  apply wpAny_bind
  apply wpAny_rule
  apply wpAny_bind
  apply wpAny_field hz rfl (x := .ref TO) rfl
  apply wpAny_bind
  apply wpAny_setField_rec hz (by simp)
  intro g1 z1 s1
  have z1 : ZG g1 z TI TO .ellipsis f := z1
  apply wpAny_bind
  simp only [List.zipIdx_cons, List.zipIdx_nil, List.forIn_cons, List.forIn_nil]
  -- the first list's item
  apply wpAny_bind
  apply wpAny_bind
  apply wpAny_onRaise
  apply wpAny_bind (m := Builtin.SmallTypes.nextOf (.ref i1))
  apply wpAny_nextOf_list_item (h1.extBut s1.extBut D.i1z) (hl1.extBut s1.extBut D.l1z) hx
  intro g2 n1 s2
  apply wpAny_pure
  have t2 : IsPair g2 TO a b := s2.extBut _ _ D.TOi1 (s1.extBut _ _ D.TOz hTO)
  apply wpAny_bind
  apply wpAny_seqItems t2 rfl
  apply wpAny_bind
  apply wpAny_updateSeq_pair t2
  intro g3 t3 s3
  have t3 : IsPair g3 TO x b := t3
  apply wpAny_bind
  apply wpAny_letGo
  apply wpAny_pure
  -- the second list's item
  apply wpAny_bind
  apply wpAny_bind
  apply wpAny_onRaise
  apply wpAny_bind (m := Builtin.SmallTypes.nextOf (.ref i2))
  apply wpAny_nextOf_list_item (((h2.extBut s1.extBut D.i2z).extBut s2.extBut D.i12.symm).extBut s3.extBut D.TOi2.symm) (((hl2.extBut s1.extBut D.l2z).extBut s2.extBut D.l2i1).extBut s3.extBut D.l2TO) hy
  intro g4 n2 s4
  apply wpAny_pure
  have t4 : IsPair g4 TO x b := s4.extBut _ _ D.TOi2 t3
  apply wpAny_bind
  apply wpAny_seqItems t4 rfl
  apply wpAny_bind
  apply wpAny_updateSeq_pair t4
  intro g5 t5 s5
  have t5 : IsPair g5 TO x y := t5
  apply wpAny_bind
  apply wpAny_letGo
  apply wpAny_pure
  apply wpAny_pure
  -- the pair
  apply wpAny_bind
  apply wpAny_seqItems t5 rfl
  apply wpAny_bind
  refine wpAny_newTuple ?_
  have size5 : g5.objs.size = s.heap.objs.size := (((s5.1.trans s4.1).trans s3.1).trans s2.1).trans s1.1
  have z5 : ZG g5 z TI TO .ellipsis f := s5.extBut _ _ D.TOz.symm (s4.extBut _ _ D.i2z.symm (s3.extBut _ _ D.TOz.symm (s2.extBut _ _ D.i1z.symm z1)))
  have n1' : g5.IsListIter i1 l1 (k1 + 1) := ((n1.extBut s3.extBut D.TOi1.symm).extBut s4.extBut D.i12).extBut s5.extBut D.TOi1.symm
  have n2' : g5.IsListIter i2 l2 (k2 + 1) := n2.extBut s5.extBut D.TOi2.symm
  have zlt : z < g5.objs.size := Heap.lt_size z5
  apply wpAny_bind (m := Builtin.SmallTypes.ownedTupleHandOut (.ref z) (.ref g5.objs.size))
  unfold Builtin.SmallTypes.ownedTupleHandOut
  have z6 : ZG (g5.push { cls := .type "tuple", data := .seq #[x, y] }) z TI TO .ellipsis f := Heap.get?_push_of_some _ z5
  apply wpAny_bind
  apply wpAny_setField_rec z6 (by simp)
  intro g7 z7 s7
  have z7 : ZG g7 z TI TO (rawInt g5.objs.size) f := z7
  apply wpAny_setField_rec z7 (by simp)
  intro g8 z8 s8
  have z8 : ZG g8 z TI TO (rawInt g5.objs.size) false := z8
  have up8 : ∀ c o, c ≠ z → g5.get? c = some o → g8.get? c = some o := fun c o q e => s8.extBut _ _ q (s7.extBut _ _ q (Heap.get?_push_of_some _ e))
  have pair8 : IsPair g8 g5.objs.size x y := s8.extBut _ _ (Nat.ne_of_gt zlt) (s7.extBut _ _ (Nat.ne_of_gt zlt) (Heap.get?_push_size _ rfl))
  have size8 : g8.objs.size = g5.objs.size + 1 := by rw [s8.1, s7.1, Heap.size_push]
  apply wpAny_pure
  refine ⟨_, rfl, ?_⟩
  show Q (.ref g5.objs.size) _
  rw [size5] at pair8 size8 ⊢
  exact hQ g8 ⟨.inr ⟨_, _, z8⟩, ⟨x, y, up8 _ _ D.TOz t5⟩, n1'.at fun o e => up8 _ o D.i1z e, n2'.at fun o e => up8 _ o D.i2z e, pair8, size8, fun c o c1 c2 c3 c4 e =>
    up8 c o c1 (s5.extBut _ _ c2 (s4.extBut _ _ c4 (s3.extBut _ _ c2 (s2.extBut _ _ c3 (s1.extBut _ _ c1 e)))))⟩
end
end G81

/-! A zip's end; an enumerate over a zip: its next item, its end. -/
namespace G81
open PySem PySem.Spec PyProof.Rows L2
section
variable {prog : Program} {w : World} {A : Around} {E : Value → Shared → Prop} {s : Shared} {z TI TO i1 i2 l1 l2 : Addr} {k1 k2 : Nat} {xs ys : Array Value} {F0 : Value} {f : Bool} {x y a b : Value}
theorem zg_end_free {Q : Fin → Shared → Prop} (hh : A.handled = none) (D : ZipApart z TI TO i1 i2 l1 l2) (hz : ZG s.heap z TI TO F0 f) (hF : F0 = .none ∨ ∃ T : Addr, F0 = rawInt T ∧ s.heap.get? T = none)
    (hTI : IsPair s.heap TI (.ref i1) (.ref i2)) (hTO : IsPair s.heap TO a b) (h1 : s.heap.IsListIter i1 l1 k1) (h2 : s.heap.IsListIter i2 l2 k2) (hl1 : s.heap.IsList l1 xs) (hl2 : s.heap.IsList l2 ys) (hend : xs[k1]? = none ∨ ys[k2]? = none)
    (hE : ∀ h' e, (∀ c o, c ≠ z → c ≠ TO → c ≠ i1 → c ≠ i2 → s.heap.get? c = some o → h'.get? c = some o) → (∃ o, h'.get? e = some o ∧ o.cls = .type "StopIteration") → E (.ref e) { s with heap := h' }) :
    wpAny (model prog w) A (Builtin.«zip.__next__» ⟨[.ref z], []⟩) Q E s := by
  have other : ∀ {h : Heap} {e : Addr} {o : Obj} {F : Value}, ZG h z TI TO F f → h.get? e = some o → o.cls = .type "StopIteration" → e ≠ z := fun {h e o F} hz he hc q => by
    subst q
    rw [hz] at he
    cases he
    simp at hc
  apply wpAny_bind (m := field (.ref z) 2)
  apply wpAny_field hz rfl (x := .bool false) rfl
  apply wpAny_bind (m := field (.ref z) 3)
  apply wpAny_field hz rfl (x := .ref TI) rfl
  apply wpAny_bind
  apply wpAny_seqItems hTI rfl
  apply wpAny_bind (m := Builtin.SmallTypes.ownedTupleIsFree (.ref z))
  apply zg_free hz hF
  simp only [if_true]
  apply wpAny_bind
  apply wpAny_rule
  apply wpAny_bind
  apply wpAny_field hz rfl (x := .ref TO) rfl
  apply wpAny_bind
  apply wpAny_setField_rec hz (by simp)
  intro g1 z1 s1
  have z1 : ZG g1 z TI TO .ellipsis f := z1
  apply wpAny_bind
  simp only [List.zipIdx_cons, List.zipIdx_nil, List.forIn_cons, List.forIn_nil]
  apply wpAny_bind
  apply wpAny_bind
  apply wpAny_onRaise
  apply wpAny_bind (m := Builtin.SmallTypes.nextOf (.ref i1))
  cases hx : xs[k1]? with
  | none =>
    apply wpAny_nextOf_list_end hh (h1.extBut s1.extBut D.i1z) (hl1.extBut s1.extBut D.l1z) hx
    rintro g2 e up ⟨oe, he, hc⟩
    have z2 : ZG g2 z TI TO .ellipsis f := up _ _ D.i1z.symm z1
    apply wpAny_setField_rec z2 (by simp)
    intro g3 z3 s3
    exact hE g3 e (fun c o c1 _ c3 _ q => s3.extBut _ _ c1 (up _ _ c3 (s1.extBut _ _ c1 q))) ⟨oe, s3.extBut _ _ (other z2 he hc) he, hc⟩
  | some x =>
    have hy : ys[k2]? = none := hend.resolve_left (by rw [hx]; simp)
    apply wpAny_nextOf_list_item (h1.extBut s1.extBut D.i1z) (hl1.extBut s1.extBut D.l1z) hx
    intro g2 n1 s2
    apply wpAny_pure
    have t2 : IsPair g2 TO a b := s2.extBut _ _ D.TOi1 (s1.extBut _ _ D.TOz hTO)
    apply wpAny_bind
    apply wpAny_seqItems t2 rfl
    apply wpAny_bind
    apply wpAny_updateSeq_pair t2
    intro g3 t3 s3
    apply wpAny_bind
    apply wpAny_letGo
    apply wpAny_pure
    apply wpAny_bind
    apply wpAny_bind
    apply wpAny_onRaise
    apply wpAny_bind (m := Builtin.SmallTypes.nextOf (.ref i2))
    apply wpAny_nextOf_list_end hh (((h2.extBut s1.extBut D.i2z).extBut s2.extBut D.i12.symm).extBut s3.extBut D.TOi2.symm) (((hl2.extBut s1.extBut D.l2z).extBut s2.extBut D.l2i1).extBut s3.extBut D.l2TO) hy
    rintro g4 e up ⟨oe, he, hc⟩
    have z4 : ZG g4 z TI TO .ellipsis f := up _ _ D.i2z.symm (s3.extBut _ _ D.TOz.symm (s2.extBut _ _ D.i1z.symm z1))
    apply wpAny_setField_rec z4 (by simp)
    intro g5 z5 s5
    exact hE g5 e (fun c o c1 c2 c3 c4 q => s5.extBut _ _ c1 (up _ _ c4 (s3.extBut _ _ c2 (s2.extBut _ _ c3 (s1.extBut _ _ c1 q))))) ⟨oe, s5.extBut _ _ (other z4 he hc) he, hc⟩
/-- what a zip looks at -/
structure ZIn (h : Heap) (z TI TO i1 i2 l1 l2 : Addr) (k : Nat) (xs ys : Array Value) : Prop where
  D : ZipApart z TI TO i1 i2 l1 l2
  st : ZS h z TI TO
  ti : IsPair h TI (.ref i1) (.ref i2)
  to : ∃ a b, IsPair h TO a b
  j1 : h.IsListIter i1 l1 k
  j2 : h.IsListIter i2 l2 k
  x : h.IsList l1 xs
  y : h.IsList l2 ys
theorem ZIn.ty {h : Heap} {k : Nat} (Z : ZIn h z TI TO i1 i2 l1 l2 k xs ys) (g : Array GenState) (d : _) (tk : Nat) (os : _) : (⟨h, g, d, tk, os⟩ : Shared).TypeIs (.ref z) "zip" := by
  rcases Z.st with q | ⟨T, f, q⟩
  · exact ⟨_, q, rfl⟩
  · exact ⟨_, q, rfl⟩
theorem zip_nx {k : Nat} {Q : Value → Shared → Prop} (Z : ZIn s.heap z TI TO i1 i2 l1 l2 k xs ys) (hx : xs[k]? = some x) (hy : ys[k]? = some y)
    (hQ : ∀ h', ZOut s.heap h' z TI TO i1 i2 l1 l2 k k x y → Q (.ref s.heap.objs.size) { s with heap := h' }) : wpAny (model prog w) A (Builtin.SmallTypes.nextOf (.ref z)) Q E s := by
  obtain ⟨a, b, hTO⟩ := Z.to
  have ty : s.TypeIs (.ref z) "zip" := Z.ty s.gens s.drawn s.toks s.os
  unfold Builtin.SmallTypes.nextOf
  refine wpAny_bind (wpAny_callSpecial?_slot (name := Str.ofString "__next__") ty F.slot_zip_next (wpAny_call_entry F.slot_zip_next ty F.entry_zip_next ?_ (F.args_zip_next_1 _)))
  have fin : ∀ h', ZOut s.heap h' z TI TO i1 i2 l1 l2 k k x y → wpAny (model prog w) A (pure (Value.ref s.heap.objs.size)) Q E { s with heap := h' } := fun h' o => wpAny_pure (hQ h' o)
  rcases Z.st with q | ⟨T, f, q⟩
  · exact zg_next_free Z.D q (.inl rfl) Z.ti hTO Z.j1 Z.j2 Z.x Z.y hx hy fin
  · cases hT : s.heap.get? T with
    | none => exact zg_next_free Z.D q (.inr ⟨T, rfl, hT⟩) Z.ti hTO Z.j1 Z.j2 Z.x Z.y hx hy fin
    | some oT =>
      refine zip_next_item_held Z.D q hT Z.ti Z.j1 Z.j2 Z.x Z.y hx hy fun h' a1 a2 a3 a4 a5 a6 => fin h' ⟨.inr ⟨T, true, a1⟩, ⟨a, b, a6 _ _ Z.D.TOz Z.D.TOi1 Z.D.TOi2 hTO⟩, a2, a3, a4, a5, fun c o c1 _ c3 c4 e => a6 c o c1 c3 c4 e⟩
theorem zip_nx_end {k : Nat} {Q : Value → Shared → Prop} (hh : A.handled = none) (Z : ZIn s.heap z TI TO i1 i2 l1 l2 k xs ys) (hend : xs[k]? = none ∨ ys[k]? = none)
    (hE : ∀ h' e, (∀ c o, c ≠ z → c ≠ TO → c ≠ i1 → c ≠ i2 → s.heap.get? c = some o → h'.get? c = some o) → (∃ o, h'.get? e = some o ∧ o.cls = .type "StopIteration") → E (.ref e) { s with heap := h' }) :
    wpAny (model prog w) A (Builtin.SmallTypes.nextOf (.ref z)) Q E s := by
  obtain ⟨a, b, hTO⟩ := Z.to
  have ty : s.TypeIs (.ref z) "zip" := Z.ty s.gens s.drawn s.toks s.os
  unfold Builtin.SmallTypes.nextOf
  refine wpAny_bind (wpAny_callSpecial?_slot (name := Str.ofString "__next__") ty F.slot_zip_next (wpAny_call_entry F.slot_zip_next ty F.entry_zip_next ?_ (F.args_zip_next_1 _)))
  rcases Z.st with q | ⟨T, f, q⟩
  · exact zg_end_free hh Z.D q (.inl rfl) Z.ti hTO Z.j1 Z.j2 Z.x Z.y hend hE
  · cases hT : s.heap.get? T with
    | none => exact zg_end_free hh Z.D q (.inr ⟨T, rfl, hT⟩) Z.ti hTO Z.j1 Z.j2 Z.x Z.y hend hE
    | some oT => exact zip_next_end_held hh Z.D q hT Z.ti Z.j1 Z.j2 Z.x Z.y hend fun h' e up he => hE h' e (fun c o c1 _ c3 c4 q => up c o c1 c3 c4 q) he
end
end G81

/-! An enumerate over a zip: its next item, its end, its turns. -/
namespace G81
open PySem PySem.Spec PyProof.Rows L2
section
variable {prog : Program} {w : World} {A : Around} {E : Value → Shared → Prop} {s : Shared} {e z TI TO i1 i2 l1 l2 : Addr} {xs ys : Array Value} {x y old : Value} {k : Nat}
theorem ez_item {Q : Option Value → Shared → Prop} (Z : ZIn s.heap z TI TO i1 i2 l1 l2 k xs ys) (he : IsEnum s.heap e z ((k : Nat) : Int) old) (hx : xs[k]? = some x) (hy : ys[k]? = some y) (ez : e ≠ z) (eO : e ≠ TO) (e1 : e ≠ i1) (e2 : e ≠ i2)
    (hQ : ∀ h1 h', ZOut s.heap h1 z TI TO i1 i2 l1 l2 k k x y → (∃ old, IsEnumOut h' e z (((k + 1 : Nat) : Nat) : Int) old (s.heap.objs.size + 1)) →
      h'.get? (s.heap.objs.size + 1) = some { cls := .type "tuple", data := .seq #[.int k s.toks, .ref s.heap.objs.size] } → h'.objs.size = s.heap.objs.size + 2 →
      (∀ b o, b ≠ e → h1.get? b = some o → h'.get? b = some o) → Q (some (.ref (s.heap.objs.size + 1))) { s with heap := h', toks := s.toks + 1 }) :
    wpAny (model prog w) A (pyNext (.ref e)) Q E s := by
  have ty : s.TypeIs (.ref e) "enumerate" := ⟨_, he, rfl⟩
  unfold pyNext
  refine wpAny_bind (wpAny_attempt (wpAny_callSpecial?_slot (name := Str.ofString "__next__") ty F.slot_enumerate_next (wpAny_call_entry F.slot_enumerate_next ty F.entry_enumerate_next ?_ (F.args_enumerate_next_1 _))))
  rcases s with ⟨hp, g, d, tk, os⟩
  apply wpAny_bind (m := field (.ref e) 2)
  apply wpAny_field he rfl (x := .ref z) rfl
  apply wpAny_bind (m := Builtin.SmallTypes.nextOf (.ref z))
  refine zip_nx Z hx hy fun g1 o1 => ?_
  have c1 : IsEnum g1 e z (k : Int) old := o1.up _ _ ez eO e1 e2 he
  have sz1 : g1.objs.size = hp.objs.size + 1 := o1.sz
  apply wpAny_bind (m := field (.ref e) 3)
  apply wpAny_field c1 rfl (x := rawInt k) rfl
  apply wpAny_bind (m := field (.ref e) 4)
  apply wpAny_field c1 rfl (x := .none) rfl
  apply wpAny_bind (m := mkInt k)
  apply wpAny_mkInt
  apply wpAny_bind (m := setField (.ref e) 3 (rawInt ((k : Int) + 1)))
  refine wpAny_setField_rec c1 (by simp) fun g2 c2 s2 => ?_
  have c2 : IsEnum g2 e z ((k : Int) + 1) old := c2
  have s2 : Heap.SameBut e g1 g2 := s2
  apply wpAny_bind (m := setField (.ref e) 4 .none)
  refine wpAny_setField_rec c2 (by simp) fun g3 c3 s3 => ?_
  have c3 : IsEnum g3 e z ((k : Int) + 1) old := c3
  have s3 : Heap.SameBut e g2 g3 := s3
  apply wpAny_bind (m := newTuple [.int k tk, .ref hp.objs.size])
  refine wpAny_newTuple ?_
  have sz3 : g3.objs.size = hp.objs.size + 1 := (s3.1.trans s2.1).trans sz1
  have elt : e < hp.objs.size := Heap.lt_size he
  generalize h4 : g3.push { cls := .type "tuple", data := .seq #[.int k tk, .ref hp.objs.size] } = g4
  have c4 : IsEnum g4 e z ((k : Int) + 1) old := by rw [← h4]; exact Heap.get?_push_of_some _ c3
  have t4 : g4.get? (hp.objs.size + 1) = some { cls := .type "tuple", data := .seq #[.int k tk, .ref hp.objs.size] } := by rw [← h4, ← sz3]; exact Heap.get?_push_size _ rfl
  have sz4 : g4.objs.size = hp.objs.size + 2 := by rw [← h4, Heap.size_push, sz3]
  have up4 : ∀ b o, b ≠ e → g1.get? b = some o → g4.get? b = some o := fun b o hb q => by
    rw [← h4]; exact Heap.get?_push_of_some _ (s3.extBut b o hb (s2.extBut b o hb q))
  rw [show g3.objs.size = hp.objs.size + 1 from sz3]
  apply wpAny_bind (m := Builtin.SmallTypes.ownedTupleIsFree (.ref e))
  unfold Builtin.SmallTypes.ownedTupleIsFree
  refine wpAny_bind (wpAny_field c4 rfl (x := .none) rfl (wpAny_pure ?_))
  simp only [if_true]
  apply wpAny_bind
  apply wpAny_rule
  apply wpAny_bind
  apply wpAny_field c4 rfl (x := old) rfl
  apply wpAny_bind
  refine wpAny_setField_rec c4 (by simp) fun g5 c5 s5 => ?_
  have c5 : IsEnum g5 e z ((k : Int) + 1) (.ref hp.objs.size) := c5
  have s5 : Heap.SameBut e g4 g5 := s5
  apply wpAny_bind (m := Builtin.SmallTypes.ownedTupleHandOut (.ref e) (.ref (hp.objs.size + 1)))
  unfold Builtin.SmallTypes.ownedTupleHandOut
  apply wpAny_bind
  refine wpAny_setField_rec c5 (by simp) fun g6 c6 s6 => ?_
  have c6 : IsEnumOut g6 e z ((k : Int) + 1) (.ref hp.objs.size) (hp.objs.size + 1) := c6
  have s6 : Heap.SameBut e g5 g6 := s6
  refine wpAny_setField_rec c6 (by simp) fun g7 c7 s7 => ?_
  have c7 : IsEnumOut g7 e z ((k : Int) + 1) (.ref hp.objs.size) (hp.objs.size + 1) := c7
  have s7 : Heap.SameBut e g6 g7 := s7
  have ne : (hp.objs.size + 1 : Nat) ≠ e := Nat.ne_of_gt (Nat.lt_succ_of_lt elt)
  refine wpAny_bind (wpAny_letGo (wpAny_pure ⟨_, rfl, wpAny_pure (hQ g1 g7 o1 ⟨_, by rw [Int.natCast_succ]; exact c7⟩ ?_ ?_ ?_)⟩))
  · exact s7.extBut _ _ ne (s6.extBut _ _ ne (s5.extBut _ _ ne t4))
  · rw [s7.1, s6.1, s5.1, sz4]
  · exact fun b o hb q => s7.extBut b o hb (s6.extBut b o hb (s5.extBut b o hb (up4 b o hb q)))
theorem ez_end {Q : Option Value → Shared → Prop} (hh : A.handled = none) (Z : ZIn s.heap z TI TO i1 i2 l1 l2 k xs ys) (he : IsEnum s.heap e z ((k : Nat) : Int) old) (hend : xs[k]? = none ∨ ys[k]? = none)
    (hQ : ∀ h', (∀ c o, c ≠ z → c ≠ TO → c ≠ i1 → c ≠ i2 → s.heap.get? c = some o → h'.get? c = some o) → Q none { s with heap := h' }) : wpAny (model prog w) A (pyNext (.ref e)) Q E s := by
  have ty : s.TypeIs (.ref e) "enumerate" := ⟨_, he, rfl⟩
  unfold pyNext
  refine wpAny_bind (wpAny_attempt (wpAny_callSpecial?_slot (name := Str.ofString "__next__") ty F.slot_enumerate_next (wpAny_call_entry F.slot_enumerate_next ty F.entry_enumerate_next ?_ (F.args_enumerate_next_1 _))))
  apply wpAny_bind (m := field (.ref e) 2)
  apply wpAny_field he rfl (x := .ref z) rfl
  apply wpAny_bind (m := Builtin.SmallTypes.nextOf (.ref z))
  refine zip_nx_end hh Z hend fun h' st up q => ?_
  obtain ⟨o, ho, hc⟩ := q
  exact wpAny_bind (wpAny_isInstance (T := "StopIteration") (b := true) ⟨o, ho, hc⟩ isSubtype_stop (wpAny_pure (hQ _ up)))
end
/-- two lists as they stand at each turn: the pair, and the place with the pair, are new -/
def Itez (K : PySem.W.Frag) (a b : Addr) : It :=
  ⟨fun i H => ∃ (xs ys : List V) (x y : V), SqL K H a xs ∧ SqL K H b ys ∧ xs[i]? = some x ∧ ys[i]? = some y,
    fun i H v H' => ∃ T T2 x y, v = .ref T2 ∧ H T = none ∧ upd H T (.tup [x, y]) T2 = none ∧ H' = upd (upd H T (.tup [x, y])) T2 (.tup [.int (i : Nat), .ref T]) ∧ (∀ xs, SqL K H a xs → xs[i]? = some x) ∧ ∀ ys, SqL K H b ys → ys[i]? = some y,
    fun i H => ∃ xs ys : List V, SqL K H a xs ∧ SqL K H b ys ∧ (xs.length ≤ i ∨ ys.length ≤ i)⟩
/-- the cells of an enumerate over a zip -/
structure EzAt (e z TI TO i1 i2 a b : Addr) (i : Nat) (h : Heap) : Prop where
  en : ∃ old, IsEnum h e z ((i : Nat) : Int) old
  st : ZS h z TI TO
  ti : IsPair h TI (.ref i1) (.ref i2)
  to : ∃ a b, IsPair h TO a b
  j1 : h.IsListIter i1 a i
  j2 : h.IsListIter i2 b i
structure EzAp (e z TI TO i1 i2 a b : Addr) : Prop where
  D : ZipApart z TI TO i1 i2 a b
  z : e ≠ z
  I : e ≠ TI
  O : e ≠ TO
  i1 : e ≠ i1
  i2 : e ≠ i2
end G81

/-! enumerate(zip(a, b)) walked. -/
namespace G81
open PySem PySem.Spec PyProof.Rows L2
section
variable {P : Program} {w : World} {K : PySem.W.Frag} {elts : List Expr} {kk : Nat} {tpos : Pos} {e z TI TO i1 i2 a b : Addr}
theorem ez_out {h : Heap} {k : Nat} {x y : Value} {h1 : Heap} (o : ZOut h h1 z TI TO i1 i2 a b k k x y) : True := trivial
theorem turn_ez (Ap : EzAp e z TI TO i1 i2 a b) : Turn P w K (.Tuple elts kk tpos) (Itez K a b) [e, z, TI, TO, i1, i2] e (EzAt e z TI TO i1 i2 a b) where
  mem := by simp
  obj := fun i h st c hc => by
    obtain ⟨⟨old, he⟩, hz, hI, ⟨x, y, hO⟩, ⟨o1, q1, _, d1⟩, ⟨o2, q2, _, d2⟩⟩ := st
    simp only [List.mem_cons, List.not_mem_nil, or_false] at hc
    rcases hc with r | r | r | r | r | r <;> subst r
    · exact ⟨_, he, fun v q => nomatch q⟩
    · rcases hz with hz | ⟨_, _, hz⟩ <;> exact ⟨_, hz, fun v q => nomatch q⟩
    · exact ⟨_, hI, fun v q => nomatch q⟩
    · exact ⟨_, hO, fun v q => nomatch q⟩
    · exact ⟨o1, q1, fun v q => by rw [d1] at q; cases q⟩
    · exact ⟨o2, q2, fun v q => by rw [d2] at q; cases q⟩
  keep := fun i h h' st k => by
    obtain ⟨⟨old, he⟩, hz, hI, ⟨x, y, hO⟩, q1, q2⟩ := st
    refine ⟨⟨old, k e (by simp) _ he⟩, ?_, k TI (by simp) _ hI, ⟨x, y, k TO (by simp) _ hO⟩, q1.at fun o q => k i1 (by simp) o q, q2.at fun o q => k i2 (by simp) o q⟩
    rcases hz with hz | ⟨T, f, hz⟩
    · exact .inl (k z (by simp) _ hz)
    · exact .inr ⟨T, f, k z (by simp) _ hz⟩
  item := by
    intro X hP hw hK hc i pins s σ H E I hf st hg
    subst hP hw hK
    obtain ⟨⟨old, he⟩, hz, hI, hO, q1, q2⟩ := st
    obtain ⟨xs, ys, x, y, hqx, hqy, hx, hy⟩ := hg
    obtain ⟨its, rv, p1, _⟩ := I.list hqx
    obtain ⟨its2, rv2, p2, _⟩ := I.list hqy
    obtain ⟨u, hu, ru⟩ := rv.get hx
    obtain ⟨u2, hu2, ru2⟩ := rv2.get hy
    have elt : e < s.heap.objs.size := Heap.lt_size he
    have Z : ZIn s.heap z TI TO i1 i2 a b i its.toArray its2.toArray := ⟨Ap.D, hz, hI, hO, q1, q2, p1.isList, p2.isList⟩
    refine ez_item (x := u) (y := u2) Z he (by simpa using hu) (by simpa using hu2) Ap.z Ap.O Ap.i1 Ap.i2 fun h1 h' o1 oe hT2 sz' up => ?_
    obtain ⟨old', oe⟩ := oe
    refine ⟨_, rfl, wpAny_letOwnedTupleGo_enum (s := { s with heap := h', toks := s.toks + 1 }) oe fun h'' oe'' sb => ?_⟩
    have sb : Heap.SameBut e h' h'' := sb
    have up2 : ∀ c o, c ≠ e → h1.get? c = some o → h''.get? c = some o := fun c o hne q => (sb.2 c hne).trans (up c o hne q)
    -- the pair is tracked where the zip has just made it
    have nT : H s.heap.objs.size = none := I.hok.fresh (Nat.le_refl _)
    have newT : ObjOk X.prog X.w (upd H s.heap.objs.size (.tup [x, y])) h1 s.heap.objs.size (.tup [x, y]) :=
      ⟨by show 2 ≤ sizeLine; decide, [u, u2], .cons ru (.cons ru2 .nil), ⟨_, o1.pr, rfl, _, rfl⟩⟩
    have I1 : Inv X pins σ (upd H s.heap.objs.size (.tup [x, y])) { s with heap := h1, toks := s.toks } :=
      I.turnedNew (ch := [e, z, TI, TO, i1, i2]) (fun c o hb q => o1.up c o (fun r => hb (by simp [r])) (fun r => hb (by simp [r])) (fun r => hb (by simp [r])) (fun r => hb (by simp [r])) q) hf (Nat.le_refl _) newT
    -- then the place with it
    have sz1 : h1.objs.size = s.heap.objs.size + 1 := o1.sz
    have hT2' : h''.get? (s.heap.objs.size + 1) = some { cls := .type "tuple", data := .seq #[.int i s.toks, .ref s.heap.objs.size] } := (sb.2 _ (Nat.ne_of_gt (Nat.lt_succ_of_lt elt))).trans hT2
    have nT2 : upd H s.heap.objs.size (.tup [x, y]) (s.heap.objs.size + 1) = none := by
      rw [upd_ne (Nat.succ_ne_self _)]
      exact I.hok.fresh (Nat.le_succ _)
    have newT2 : ObjOk X.prog X.w (upd (upd H s.heap.objs.size (.tup [x, y])) (s.heap.objs.size + 1) (.tup [.int (i : Nat), .ref s.heap.objs.size])) h'' (s.heap.objs.size + 1) (.tup [.int (i : Nat), .ref s.heap.objs.size]) :=
      ⟨by show 2 ≤ sizeLine; decide, [.int i s.toks, .ref s.heap.objs.size], .cons ⟨_, rfl⟩ (.cons rfl .nil), ⟨_, hT2', rfl, _, rfl⟩⟩
    have fe := hf e (by simp)
    have I2 : Inv X pins σ (upd (upd H s.heap.objs.size (.tup [x, y])) (s.heap.objs.size + 1) (.tup [.int (i : Nat), .ref s.heap.objs.size])) { s with heap := h'', toks := s.toks + 1 } :=
      I1.turnedNew (t' := s.toks + 1) (ch := [e]) (fun c o hb q => up2 c o (fun r => hb (by simp [r])) q) (fun c hc => by
        have hc : c = e := by simpa using hc
        subst hc
        exact ⟨by rw [upd_ne (Nat.ne_of_lt elt)]; exact fe.1, fe.2⟩) (by show h1.objs.size ≤ _; rw [sz1]; exact Nat.le_refl _) newT2
    refine ⟨.ref (s.heap.objs.size + 1), _, I2, rfl, ⟨s.heap.objs.size, s.heap.objs.size + 1, x, y, rfl, nT, nT2, rfl, fun l hl => by rw [I.list_inj hl hqx]; exact hx, fun l hl => by rw [I.list_inj hl hqy]; exact hy⟩, ?_, fun c hcm => ?_⟩
    · obtain ⟨a2, b2, to2⟩ := o1.to
      refine ⟨⟨old', oe''⟩, ?_, up2 _ _ (Ne.symm Ap.I) (o1.up _ _ Ap.D.TIz Ap.D.TITO Ap.D.TIi1 Ap.D.TIi2 hI), ⟨a2, b2, up2 _ _ (Ne.symm Ap.O) to2⟩, o1.j1.at fun o q => up2 _ o (Ne.symm Ap.i1) q, o1.j2.at fun o q => up2 _ o (Ne.symm Ap.i2) q⟩
      rcases o1.st with q | ⟨T, f, q⟩
      · exact .inl (up2 _ _ (Ne.symm Ap.z) q)
      · exact .inr ⟨T, f, up2 _ _ (Ne.symm Ap.z) q⟩
    · have lt : c < s.heap.objs.size := by
        simp only [List.mem_cons, List.not_mem_nil, or_false] at hcm
        obtain ⟨_, _, tO⟩ := hO
        rcases hcm with r | r | r | r | r | r <;> subst r
        · exact elt
        · rcases hz with q | ⟨_, _, q⟩ <;> exact Heap.lt_size q
        · exact Heap.lt_size hI
        · exact Heap.lt_size tO
        · obtain ⟨_, q, _⟩ := q1; exact Heap.lt_size q
        · obtain ⟨_, q, _⟩ := q2; exact Heap.lt_size q
      rw [upd_ne (Nat.ne_of_lt (Nat.lt_succ_of_lt lt)), upd_ne (Nat.ne_of_lt lt)]
      exact (hf c hcm).1
  done := by
    intro X hP hw hK hc i pins s σ H E I hf st hg
    subst hP hw hK
    obtain ⟨⟨old, he⟩, hz, hI, hO, q1, q2⟩ := st
    obtain ⟨xs, ys, hqx, hqy, hend⟩ := hg
    obtain ⟨its, rv, p1, _⟩ := I.list hqx
    obtain ⟨its2, rv2, p2, _⟩ := I.list hqy
    have l1 := rv.length
    have l2 := rv2.length
    have Z : ZIn s.heap z TI TO i1 i2 a b i its.toArray its2.toArray := ⟨Ap.D, hz, hI, hO, q1, q2, p1.isList, p2.isList⟩
    refine ez_end (I.ok.hd hc) Z he ?_ fun h' up => ⟨rfl, I.turnedL (t' := s.toks) (ch := [e, z, TI, TO, i1, i2]) (fun c o hb q => up c o (fun r => hb (by simp [r])) (fun r => hb (by simp [r])) (fun r => hb (by simp [r])) (fun r => hb (by simp [r])) q) hf⟩
    rcases hend with q | q
    · exact .inl (by simp; omega)
    · exact .inr (by simp; omega)
  self := fun A i s Q E st h => by
    obtain ⟨⟨old, he⟩, _⟩ := st
    exact wpAny_pyIter_enum he h
end
theorem pi_ez {X : Cx} {e e2 : Expr} {ta : TA} {p p2 pos pos2 tpos : Pos} {elts : List Expr} {kk : Nat} (hg : Gl X "enumerate") (hm : X.mg "enumerate" = none) (hg2 : Gl X "zip") (hm2 : X.mg "zip" = none) (ha : PA X [e, e2] ta)
    (hs : starEach [e, e2] X.env = (false, eval e X.env) :: starEach [e2] X.env) (hpl : (backTo pos2 (starEach [e2] X.env)).any (·.1) = false) (hs2 : starEach [.Call (.Name "zip" p2) [e, e2] [] pos2] X.env = [(false, eval (.Call (.Name "zip" p2) [e, e2] [] pos2) X.env)]) :
    PI X (.Tuple elts kk tpos) (.Call (.Name "enumerate" p) [.Call (.Name "zip" p2) [e, e2] [] pos2] [] pos) (fun σ H R => ta σ H fun vs H1 => ∃ a b xs ys, vs = [.ref a, .ref b] ∧ SqL X.K H1 a xs ∧ SqL X.K H1 b ys ∧ R (Itez X.K a b) H1) := by
  refine ⟨fun pins s σ H R I h => ?_⟩
  refine Call_ (ld_blt I hg hm boot_enumerate (PyProof.Rows.callWith_type1 ?_ hs2 rfl))
  rw [hs2]
  refine Calls.spliced_cons ?_
  refine thn (Q := fun u s1 => wpAny (model X.prog X.w) X.A (call (.type "enumerate") [u]) (fun v s2 => wpAny (model X.prog X.w) X.A (pyIter v) (PIE X pins σ (.Tuple elts kk tpos) R) X.xe s2) X.xe s1) ?_ fun u s1 q => Calls.spliced_nil q
  refine Call_ (ld_blt I hg2 hm2 PyProof.Rows.boot_zip (PyProof.Rows.callWith_type1 (thn (ha.run pos2 pins s σ H _ I h) fun us s1 ⟨vs, H1, I1, r1, q1⟩ => ?_) hs hpl))
  obtain ⟨a, b, xs, ys, rfl, hqx, hqy, q⟩ := q1
  cases r1 with
  | cons r rr =>
    cases rr with
    | cons r' rr =>
      cases rr
      cases r
      cases r'
      obtain ⟨its, rv, p1, _⟩ := I1.list hqx
      obtain ⟨its2, rv2, p2', _⟩ := I1.list hqy
      have la : a < s1.heap.objs.size := p1.lt
      have lb : b < s1.heap.objs.size := p2'.lt
      refine call_zip_2 p1.isList p2'.isList fun h' hz hTI hTO h1 h2 hsz hk => ?_
      refine enz_call (s := { s1 with heap := h' }) hz fun h'' he hsz2 hk2 => wpAny_pyIter_enum (s := { s1 with heap := h'' }) he ?_
      have hsz' : h'.objs.size = s1.heap.objs.size + 5 := hsz
      have I2 : Inv X pins σ H1 { s1 with heap := h'' } := I1.kept (t' := s1.toks) fun c o x => hk2 c o (hk c o x)
      have eN : ({ s1 with heap := h' } : Shared).heap.objs.size = s1.heap.objs.size + 5 := hsz'
      rw [eN] at he ⊢
      refine ⟨s1.heap.objs.size + 5, [s1.heap.objs.size + 5, s1.heap.objs.size + 4, s1.heap.objs.size + 2, s1.heap.objs.size + 3, s1.heap.objs.size, s1.heap.objs.size + 1], _, _, H1, rfl, I2, turn_ez ⟨PySem.W.ktu_apart s1.heap.objs.size a b la lb, ?_, ?_, ?_, ?_, ?_⟩,
        ⟨⟨.none, he⟩, .inl (hk2 _ _ hz), hk2 _ _ hTI, ⟨_, _, hk2 _ _ hTO⟩, h1.at fun o x => hk2 _ o x, h2.at fun o x => hk2 _ o x⟩, fun c hcm => ?_, q⟩
      any_goals (show (_ : Nat) ≠ _; omega)
      have hle : s1.heap.objs.size ≤ c := by
        simp only [List.mem_cons, List.not_mem_nil, or_false] at hcm
        rcases hcm with r | r | r | r | r | r <;> (rw [r]; first | exact Nat.le_add_right _ _ | exact Nat.le_refl _)
      exact I1.fpOk hle (I1.hok.fresh hle)
end G81

/-! enumerate(zip(a, b)) in the data layer. -/
namespace G81
open PySem PySem.Spec PyProof.Rows L2
@[simp] def iEz (g : Ev → R (List D)) : Ev → R (List D) := fun env => (g env).bind fun ds => match ds with
  | [.lst l, .lst r] => .ok (enD 0 (zipD l r))
  | _ => .bad
section
variable {ι : Type} {X : ι → Cx} {G : Gx} {E : XK} {N : List Str} {k : Nat} {m : Bool} {O : List Nat} {a b : Expr} {g : Ev → R (List D)} {elts : List Expr} {kk : Nat} {tpos p p2 pos pos2 : Pos}
theorem walk_ez {b m : Bool} {F1 H1 : Hp} {p q : Addr} {xs ys : List V} {l r : List D} (h : b = true → F1 p = some (.lst xs)) (h' : H1 p = some (.lst xs)) (hl : RepL G (wd m F1 H1) l xs)
    (k : b = true → F1 q = some (.lst ys)) (k' : H1 q = some (.lst ys)) (kl : RepL G (wd m F1 H1) r ys) (hb : b = true → m = true) : WalkOk G b m (Itez G.K p q) F1 H1 (enD 0 (zipD l r)) := by
  intro i F H s1 s2 s3
  have hp : H p = some (.lst xs) := by
    cases b with
    | true => exact s2 _ _ (s1 _ _ (h rfl))
    | false => exact s3 rfl _ _ h'
  have kp : H q = some (.lst ys) := by
    cases b with
    | true => exact s2 _ _ (s1 _ _ (k rfl))
    | false => exact s3 rfl _ _ k'
  have sm : Same (wd m F1 H1) (wd m F H) := by
    cases m with
    | true => exact s1
    | false =>
      cases b with
      | true => cases hb rfl
      | false => exact s3 rfl
  have hq : SqL G.K H p xs := .inl (.inl hp)
  have kq : SqL G.K H q ys := .inl (.inl kp)
  refine ⟨fun d hd => ?_, fun hi => ⟨xs, ys, hq, kq, by rw [hl.len, kl.len]; rw [enD_len, zipD_len] at hi; omega⟩⟩
  obtain ⟨d1, hd1, rfl⟩ := enD_get 0 _ i d hd
  obtain ⟨u, v, hu, hv, rfl⟩ := zipD_get l r i d1 hd1
  obtain ⟨vu, h1, r1⟩ := (hl.mono sm).get hu
  obtain ⟨vv, h2, r2⟩ := (kl.mono sm).get hv
  refine ⟨⟨xs, ys, vu, vv, hq, kq, h1, h2⟩, fun x H' hy => ?_⟩
  obtain ⟨T, T2, x1, x2, rfl, nT, nT2, rfl, f1, f2⟩ := hy
  have e := f1 xs hq
  rw [h1] at e; cases e
  have e := f2 ys kq
  rw [h2] at e; cases e
  have e1 : Ext F H (upd F T (.tup [vu, vv])) (upd H T (.tup [vu, vv])) := .new s2 nT
  have e2 : Ext (upd F T (.tup [vu, vv])) (upd H T (.tup [vu, vv])) (upd (upd F T (.tup [vu, vv])) T2 (.tup [.int (i : Nat), .ref T])) (upd (upd H T (.tup [vu, vv])) T2 (.tup [.int (i : Nat), .ref T])) := .new e1.i nT2
  refine ⟨_, e1.trans e2, ?_⟩
  rw [wd_upd, wd_upd]
  have st := same_upd' (o := HO.tup [vu, vv]) ((wd_sub (m := m) s2).free nT)
  have nW : upd (wd m F H) T (.tup [vu, vv]) T2 = none := by
    have := (wd_sub (m := m) e1.i).free nT2
    rw [wd_upd] at this
    exact this
  have st2 := same_upd' (o := HO.tup [.int (i : Nat), .ref T]) nW
  refine ⟨T2, _, rfl, .inl (.inl upd_same), ⟨_, _, rfl, ?_, ⟨_, _, rfl, ?_, rfl⟩⟩⟩
  · show V.int _ = V.int _
    rw [Nat.zero_add]
  · exact Rep.mono st2 _ _ ⟨T, _, rfl, .inl (.inl upd_same), ⟨_, _, rfl, r1.mono st _ _, ⟨_, _, rfl, r2.mono st _ _, rfl⟩⟩⟩
theorem im_ez {b' : Bool} (C : CxOk X G N k E) (hb : b' = true → m = true) (hg : ∀ i, Gl (X i) "enumerate") (hm : G.mg "enumerate" = none) (hg2 : ∀ i, Gl (X i) "zip") (hm2 : G.mg "zip" = none) (ha : AM X G E m O [a, b] g)
    (hs : ∀ i, starEach [a, b] (X i).env = (false, eval a (X i).env) :: starEach [b] (X i).env := by intro _; rfl) (hpl : ∀ i, (backTo pos2 (starEach [b] (X i).env)).any (·.1) = false := by intro _; rfl)
    (hs2 : ∀ i, starEach [.Call (.Name "zip" p2) [a, b] [] pos2] (X i).env = [(false, eval (.Call (.Name "zip" p2) [a, b] [] pos2) (X i).env)] := by intro _; rfl) :
    IM X G E b' m O (.Tuple elts kk tpos) (.Call (.Name "enumerate" p) [.Call (.Name "zip" p2) [a, b] [] pos2] [] pos) (iEz g) := by
  obtain ⟨t, ht, rd⟩ := ha.ex
  refine ⟨fun σ H R => t σ H fun vs H1 => ∃ a b xs ys, vs = [.ref a, .ref b] ∧ SqL G.K H1 a xs ∧ SqL G.K H1 b ys ∧ R (Itez G.K a b) H1, fun i => by
    have q := pi_ez (elts := elts) (kk := kk) (tpos := tpos) (p := p) (p2 := p2) (pos := pos) (pos2 := pos2) (hg i) (by rw [C.emg i]; exact hm) (hg2 i) (by rw [C.emg i]; exact hm2) (ht i) (hs i) (hpl i) (hs2 i)
    rw [C.eK i] at q
    exact q, fun F0 H0 F σ H env Q rl h => rd F0 H0 F σ H env _ rl (PostG.bind antiW h fun ds vs F1 H1 e1 r1 h1 => ?_)⟩
  split at h1
  · obtain ⟨v, w, rfl, rv, rw'⟩ := repL2 r1
    obtain ⟨q, xs, rfl, q1, q2⟩ := rv
    obtain ⟨q', ys, rfl, q3, q4⟩ := rw'
    have q1' := wd_sub e1.i _ _ q1
    have q3' := wd_sub e1.i _ _ q3
    refine ⟨q, q', xs, ys, rfl, .inl (.inl q1'), .inl (.inl q3'), h1 _ F1 H1 (.refl e1.i) (walk_ez (fun z => ?_) q1' q2 (fun z => ?_) q3' q4 hb)⟩
    · have := hb z; subst this; exact q1
    · have := hb z; subst this; exact q3
  · exact h1.elim
end
end G81

/-! zip(a, b) walked by one name. -/
namespace G81
open PySem PySem.Spec PyProof.Rows L2
section
variable {prog : Program} {w : World} {A : Around} {E : Value → Shared → Prop} {s : Shared} {z TI TO i1 i2 l1 l2 : Addr} {xs ys : Array Value} {x y : Value} {k : Nat}
theorem zn_item {Q : Option Value → Shared → Prop} (Z : ZIn s.heap z TI TO i1 i2 l1 l2 k xs ys) (hx : xs[k]? = some x) (hy : ys[k]? = some y)
    (hQ : ∀ h', ZOut s.heap h' z TI TO i1 i2 l1 l2 k k x y → Q (some (.ref s.heap.objs.size)) { s with heap := h' }) : wpAny (model prog w) A (pyNext (.ref z)) Q E s := by
  obtain ⟨a, b, hTO⟩ := Z.to
  have ty : s.TypeIs (.ref z) "zip" := Z.ty s.gens s.drawn s.toks s.os
  unfold pyNext
  refine wpAny_bind (wpAny_attempt (wpAny_callSpecial?_slot (name := Str.ofString "__next__") ty F.slot_zip_next (wpAny_call_entry F.slot_zip_next ty F.entry_zip_next ?_ (F.args_zip_next_1 _))))
  have fin : ∀ h', ZOut s.heap h' z TI TO i1 i2 l1 l2 k k x y → wpAny (model prog w) A (pure (some (Value.ref s.heap.objs.size))) Q E { s with heap := h' } := fun h' o => wpAny_pure (hQ h' o)
  rcases Z.st with q | ⟨T, f, q⟩
  · exact zg_next_free Z.D q (.inl rfl) Z.ti hTO Z.j1 Z.j2 Z.x Z.y hx hy fin
  · cases hT : s.heap.get? T with
    | none => exact zg_next_free Z.D q (.inr ⟨T, rfl, hT⟩) Z.ti hTO Z.j1 Z.j2 Z.x Z.y hx hy fin
    | some oT => exact zip_next_item_held Z.D q hT Z.ti Z.j1 Z.j2 Z.x Z.y hx hy fun h' a1 a2 a3 a4 a5 a6 => fin h' ⟨.inr ⟨T, true, a1⟩, ⟨a, b, a6 _ _ Z.D.TOz Z.D.TOi1 Z.D.TOi2 hTO⟩, a2, a3, a4, a5, fun c o c1 _ c3 c4 e => a6 c o c1 c3 c4 e⟩
theorem zn_end {Q : Option Value → Shared → Prop} (hh : A.handled = none) (Z : ZIn s.heap z TI TO i1 i2 l1 l2 k xs ys) (hend : xs[k]? = none ∨ ys[k]? = none)
    (hQ : ∀ h', (∀ c o, c ≠ z → c ≠ TO → c ≠ i1 → c ≠ i2 → s.heap.get? c = some o → h'.get? c = some o) → Q none { s with heap := h' }) : wpAny (model prog w) A (pyNext (.ref z)) Q E s := by
  obtain ⟨a, b, hTO⟩ := Z.to
  have ty : s.TypeIs (.ref z) "zip" := Z.ty s.gens s.drawn s.toks s.os
  unfold pyNext
  refine wpAny_bind (wpAny_attempt (wpAny_callSpecial?_slot (name := Str.ofString "__next__") ty F.slot_zip_next (wpAny_call_entry F.slot_zip_next ty F.entry_zip_next ?_ (F.args_zip_next_1 _))))
  have stop : ∀ h' st, (∀ c o, c ≠ z → c ≠ TO → c ≠ i1 → c ≠ i2 → s.heap.get? c = some o → h'.get? c = some o) → (∃ o, h'.get? st = some o ∧ o.cls = .type "StopIteration") → wpAny (model prog w) A (do if ← isInstance (.ref st) (.type "StopIteration") then pure none else throw (.ref st)) Q E { s with heap := h' } := by
    rintro h' st up ⟨o, ho, hc⟩
    exact wpAny_bind (wpAny_isInstance (T := "StopIteration") (b := true) ⟨o, ho, hc⟩ isSubtype_stop (wpAny_pure (hQ _ up)))
  rcases Z.st with q | ⟨T, f, q⟩
  · exact zg_end_free hh Z.D q (.inl rfl) Z.ti hTO Z.j1 Z.j2 Z.x Z.y hend stop
  · cases hT : s.heap.get? T with
    | none => exact zg_end_free hh Z.D q (.inr ⟨T, rfl, hT⟩) Z.ti hTO Z.j1 Z.j2 Z.x Z.y hend stop
    | some oT => exact zip_next_end_held hh Z.D q hT Z.ti Z.j1 Z.j2 Z.x Z.y hend fun h' e up he => stop h' e (fun c o c1 _ c3 c4 q => up c o c1 c3 c4 q) he
end
structure ZnAt (z TI TO i1 i2 a b : Addr) (i : Nat) (h : Heap) : Prop where
  st : ZS h z TI TO
  ti : IsPair h TI (.ref i1) (.ref i2)
  to : ∃ a b, IsPair h TO a b
  j1 : h.IsListIter i1 a i
  j2 : h.IsListIter i2 b i
theorem turn_zn {P : Program} {w : World} {K : PySem.W.Frag} {n : Str} {np : Pos} {z TI TO i1 i2 a b : Addr} (D : ZipApart z TI TO i1 i2 a b) : Turn P w K (.Name n np) (Itz K a b) [z, TI, TO, i1, i2] z (ZnAt z TI TO i1 i2 a b) where
  mem := by simp
  obj := fun i h st c hc => by
    obtain ⟨hz, hI, ⟨x, y, hO⟩, ⟨o1, q1, _, d1⟩, ⟨o2, q2, _, d2⟩⟩ := st
    simp only [List.mem_cons, List.not_mem_nil, or_false] at hc
    rcases hc with r | r | r | r | r <;> subst r
    · rcases hz with hz | ⟨_, _, hz⟩ <;> exact ⟨_, hz, fun v q => nomatch q⟩
    · exact ⟨_, hI, fun v q => nomatch q⟩
    · exact ⟨_, hO, fun v q => nomatch q⟩
    · exact ⟨o1, q1, fun v q => by rw [d1] at q; cases q⟩
    · exact ⟨o2, q2, fun v q => by rw [d2] at q; cases q⟩
  keep := fun i h h' st k => by
    obtain ⟨hz, hI, ⟨x, y, hO⟩, q1, q2⟩ := st
    refine ⟨?_, k TI (by simp) _ hI, ⟨x, y, k TO (by simp) _ hO⟩, q1.at fun o q => k i1 (by simp) o q, q2.at fun o q => k i2 (by simp) o q⟩
    rcases hz with hz | ⟨T, f, hz⟩
    · exact .inl (k z (by simp) _ hz)
    · exact .inr ⟨T, f, k z (by simp) _ hz⟩
  item := by
    intro X hP hw hK hc i pins s σ H E I hf st hg
    subst hP hw hK
    obtain ⟨hz, hI, hO, q1, q2⟩ := st
    obtain ⟨xs, ys, x, y, hqx, hqy, hx, hy⟩ := hg
    obtain ⟨its, rv, p1, _⟩ := I.list hqx
    obtain ⟨its2, rv2, p2, _⟩ := I.list hqy
    obtain ⟨u, hu, ru⟩ := rv.get hx
    obtain ⟨u2, hu2, ru2⟩ := rv2.get hy
    have Z : ZIn s.heap z TI TO i1 i2 a b i its.toArray its2.toArray := ⟨D, hz, hI, hO, q1, q2, p1.isList, p2.isList⟩
    refine zn_item (x := u) (y := u2) Z (by simpa using hu) (by simpa using hu2) fun h1 o1 => ?_
    have newT : ObjOk X.prog X.w (upd H s.heap.objs.size (.tup [x, y])) h1 s.heap.objs.size (.tup [x, y]) :=
      ⟨by show 2 ≤ sizeLine; decide, [u, u2], .cons ru (.cons ru2 .nil), ⟨_, o1.pr, rfl, _, rfl⟩⟩
    have I1 : Inv X pins σ (upd H s.heap.objs.size (.tup [x, y])) { s with heap := h1, toks := s.toks } :=
      I.turnedNew (ch := [z, TI, TO, i1, i2]) (fun c o hb q => o1.up c o (fun r => hb (by simp [r])) (fun r => hb (by simp [r])) (fun r => hb (by simp [r])) (fun r => hb (by simp [r])) q) hf (Nat.le_refl _) newT
    refine ⟨_, rfl, ?_⟩
    unfold letOwnedTupleGo
    refine wpAny_pure ⟨.ref s.heap.objs.size, _, I1, rfl, ⟨s.heap.objs.size, x, y, rfl, I.hok.fresh (Nat.le_refl _), rfl, fun l hl => by rw [I.list_inj hl hqx]; exact hx, fun l hl => by rw [I.list_inj hl hqy]; exact hy⟩, ⟨o1.st, o1.up _ _ D.TIz D.TITO D.TIi1 D.TIi2 hI, o1.to, o1.j1, o1.j2⟩, fun c hcm => ?_⟩
    have lt : c < s.heap.objs.size := by
      simp only [List.mem_cons, List.not_mem_nil, or_false] at hcm
      obtain ⟨_, _, tO⟩ := hO
      rcases hcm with r | r | r | r | r <;> subst r
      · rcases hz with q | ⟨_, _, q⟩ <;> exact Heap.lt_size q
      · exact Heap.lt_size hI
      · exact Heap.lt_size tO
      · obtain ⟨_, q, _⟩ := q1; exact Heap.lt_size q
      · obtain ⟨_, q, _⟩ := q2; exact Heap.lt_size q
    rw [upd_ne (Nat.ne_of_lt lt)]
    exact (hf c hcm).1
  done := by
    intro X hP hw hK hc i pins s σ H E I hf st hg
    subst hP hw hK
    obtain ⟨hz, hI, hO, q1, q2⟩ := st
    obtain ⟨xs, ys, hqx, hqy, hend⟩ := hg
    obtain ⟨its, rv, p1, _⟩ := I.list hqx
    obtain ⟨its2, rv2, p2, _⟩ := I.list hqy
    have l1 := rv.length
    have l2 := rv2.length
    have Z : ZIn s.heap z TI TO i1 i2 a b i its.toArray its2.toArray := ⟨D, hz, hI, hO, q1, q2, p1.isList, p2.isList⟩
    refine zn_end (I.ok.hd hc) Z ?_ fun h' up => ⟨rfl, I.turnedL (t' := s.toks) (ch := [z, TI, TO, i1, i2]) (fun c o hb q => up c o (fun r => hb (by simp [r])) (fun r => hb (by simp [r])) (fun r => hb (by simp [r])) (fun r => hb (by simp [r])) q) hf⟩
    rcases hend with q | q
    · exact .inl (by simp; omega)
    · exact .inr (by simp; omega)
  self := fun A i s Q E st h => by
    rcases st.st with q | ⟨_, _, q⟩
    · exact wpAny_pyIter_zip q h
    · have ty : s.TypeIs (.ref z) "zip" := ⟨_, q, rfl⟩
      refine wpAny_pyIter_slot ty F.slot_zip_iter (wpAny_call_entry F.slot_zip_iter ty F.entry_zip_iter ?_ (F.args_zip_iter_1 _))
      show wpAny _ _ (ret (.ref z)) _ _ s
      exact wpAny_pure ⟨_, rfl, "zip", _, ty, F.slot_zip_next.lookup, h⟩
theorem pi_zn {X : Cx} {e e2 : Expr} {ta : TA} {p pos np : Pos} {n : Str} (hg2 : Gl X "zip") (hm2 : X.mg "zip" = none) (ha : PA X [e, e2] ta)
    (hs : starEach [e, e2] X.env = (false, eval e X.env) :: starEach [e2] X.env) (hpl : (backTo pos (starEach [e2] X.env)).any (·.1) = false) : PI X (.Name n np) (.Call (.Name "zip" p) [e, e2] [] pos) (iZip X.K ta) := by
  refine ⟨fun pins s σ H R I h => ?_⟩
  refine Call_ (ld_blt I hg2 hm2 PyProof.Rows.boot_zip (PyProof.Rows.callWith_type1 (thn (ha.run pos pins s σ H _ I h) fun us s1 ⟨vs, H1, I1, r1, q1⟩ => ?_) hs hpl))
  obtain ⟨a, b, xs, ys, rfl, hqx, hqy, q⟩ := q1
  cases r1 with
  | cons r rr =>
    cases rr with
    | cons r' rr =>
      cases rr
      cases r
      cases r'
      obtain ⟨its, rv, p1, _⟩ := I1.list hqx
      obtain ⟨its2, rv2, p2', _⟩ := I1.list hqy
      have la : a < s1.heap.objs.size := p1.lt
      have lb : b < s1.heap.objs.size := p2'.lt
      refine call_zip_2 p1.isList p2'.isList fun h' hz hTI hTO h1 h2 hsz hk => wpAny_pyIter_zip hz ?_
      have I2 : Inv X pins σ H1 { s1 with heap := h' } := I1.kept (t' := s1.toks) hk
      refine ⟨s1.heap.objs.size + 4, [s1.heap.objs.size + 4, s1.heap.objs.size + 2, s1.heap.objs.size + 3, s1.heap.objs.size, s1.heap.objs.size + 1], _, _, H1, rfl, I2, turn_zn (PySem.W.ktu_apart s1.heap.objs.size a b la lb), ⟨.inl hz, hTI, ⟨_, _, hTO⟩, h1, h2⟩, fun c hcm => ?_, q⟩
      have hle : s1.heap.objs.size ≤ c := by
        simp only [List.mem_cons, List.not_mem_nil, or_false] at hcm
        rcases hcm with r | r | r | r | r <;> (rw [r]; first | exact Nat.le_add_right _ _ | exact Nat.le_refl _)
      exact I1.fpOk hle (I1.hok.fresh hle)
section
variable {ι : Type} {X : ι → Cx} {G : Gx} {E : XK} {N : List Str} {k : Nat} {m : Bool} {O : List Nat} {a b : Expr} {g : Ev → R (List D)} {p pos np : Pos} {n : Str}
theorem im_zn {b' : Bool} (C : CxOk X G N k E) (hb : b' = true → m = true) (hg : ∀ i, Gl (X i) "zip") (hm : G.mg "zip" = none) (ha : AM X G E m O [a, b] g) (hs : ∀ i, starEach [a, b] (X i).env = (false, eval a (X i).env) :: starEach [b] (X i).env := by intro _; rfl)
    (hpl : ∀ i, (backTo pos (starEach [b] (X i).env)).any (·.1) = false := by intro _; rfl) : IM X G E b' m O (.Name n np) (.Call (.Name "zip" p) [a, b] [] pos) (iZp g) := by
  obtain ⟨t, ht, rd⟩ := ha.ex
  refine ⟨iZip G.K t, fun i => by have q := pi_zn (n := n) (np := np) (p := p) (hg i) (by rw [C.emg i]; exact hm) (ht i) (hs i) (hpl i); rw [C.eK i] at q; exact q, fun F0 H0 F σ H env Q rl h => rd F0 H0 F σ H env _ rl (PostG.bind antiW h fun ds vs F1 H1 e1 r1 h1 => ?_)⟩
  split at h1
  · obtain ⟨v, w, rfl, rv, rw'⟩ := repL2 r1
    obtain ⟨q, xs, rfl, q1, q2⟩ := rv
    obtain ⟨q', ys, rfl, q3, q4⟩ := rw'
    have q1' := wd_sub e1.i _ _ q1
    have q3' := wd_sub e1.i _ _ q3
    refine ⟨q, q', xs, ys, rfl, .inl (.inl q1'), .inl (.inl q3'), h1 _ F1 H1 (.refl e1.i) (walk_zp (fun z => ?_) q1' q2 (fun z => ?_) q3' q4 hb)⟩
    · have := hb z; subst this; exact q1
    · have := hb z; subst this; exact q3
  · exact h1.elim
end
section
variable {ι : Type} {Y : ι → Cx} {G : Gx} {E : XK} {N : List Str} {k : Nat} {b : Bool} {O : List Nat} {pos : Pos}
/-- the scope of a comprehension's block within a def of the scope sY -/
def relS (so sY : Scope) : Scope := relabel so { scope := sY, locals := 0, globals := 0, cells := [], qual := "", func := none, code := .none, frame := none, builtins := 0 }
theorem relS_eq (so : Scope) (env : Env) : relabel so env = relS so env.scope := rfl
/-- a comprehension within a comprehension -/
theorem eLcNB [Calm G] {elt tg iter : Expr} {ifs : List Expr} {so scope sY : Scope} (ow : List (Str × Nat)) {g : Ev → R (List D)} {tgt : D → Ev → R Ev} {tst : Ev → R Bool} {fe : Ev → R D} (C : CxOk (blkF Y so) G N k E)
    (hi : IM (blkF Y so) G E b true O tg iter g) (ok : ∀ i, (Y i).env.scope = sY) (ok2 : blkC N (relS so sY) scope ow = true)
    (hg : GM (blkF (blkF Y so) scope) G O (ow.map (·.2)) tg tgt) (ht : TsM (blkF (blkF Y so) scope) G E0 O ifs tst) (he : EM (blkF (blkF Y so) scope) G E0 true O elt fe) (hO : disj (ow.map (·.2)) O = true := by rfl) (hs : ∀ i x, foldedSetIterable iter (blkF Y so i).env x = pure x := by intro _ _; rfl) :
    EO (blkF Y so) G E O (.ListComp elt [⟨tg, iter, ifs, 0⟩] scope pos) (eLc (ow.map (·.2)) g tgt tst fe) :=
  eLcN (X := blkF Y so) ow (sc := relS so sY) C hi (fun i => (relS_eq so (Y i.1).env).trans (congrArg (relS so) (ok i.1))) ok2 hg ht he hO hs
end
end G81

/-! Plain facts about data: equality, what is walked. -/
namespace G81
open PySem

mutual
@[simp] def dpD : D → Nat
  | .lst l => dpDs l + 1
  | .tup l => dpDs l + 1
  | .scr _ => 1
  | _ => 0
@[simp] def dpDs : List D → Nat
  | [] => 0
  | d :: ds => max (dpD d) (dpDs ds)
end
theorem strOk_mk (s : List Char) : PyData.strOk (mkS s) = true := by
  unfold PyData.strOk mkS
  simp only [List.all_toArray, List.all_map, List.all_eq_true, Function.comp]
  intro c _
  refine decide_eq_true ?_
  have h := c.valid
  unfold UInt32.isValidChar Nat.isValidChar at h
  show c.val.toNat < 1114112
  omega
mutual
theorem lay_cm : ∀ d : D, cmD d = true → (toP d).canLay0 = true
  | .non, _ => rfl
  | .bl _, _ => rfl
  | .int _, _ => rfl
  | .str s, _ => strOk_mk s
  | .lst l, h => lays_cm l h
  | .tup l, h => lays_cm l h
  | .scr l, _ => by
    show PyData.canLayAll0 (l.map PyData.int) = true
    induction l with
    | nil => rfl
    | cons i l ih => simpa [PyData.canLayAll0, PyData.canLay0] using ih rfl
  | .dic _ _, h => by cases h
  | .exc _, h => by cases h
  | .fn _, h => by cases h
theorem lays_cm : ∀ l : List D, cmDs l = true → PyData.canLayAll0 (toPs l) = true
  | [], _ => rfl
  | d :: ds, h => by
    rw [show cmDs (d :: ds) = (cmD d && cmDs ds) by simp [cmDs], Bool.and_eq_true] at h
    rw [show toPs (d :: ds) = toP d :: toPs ds by simp [toPs], show PyData.canLayAll0 (toP d :: toPs ds) = ((toP d).canLay0 && PyData.canLayAll0 (toPs ds)) by simp [PyData.canLayAll0], lay_cm d h.1, lays_cm ds h.2]
    rfl
end
theorem dp_ints : ∀ l : List Int, PyData.depthAll (l.map PyData.int) = 0
  | [] => by simp [PyData.depthAll]
  | i :: l => by simp [PyData.depthAll, PyData.depth, dp_ints l]
mutual
theorem dp_cm : ∀ d : D, cmD d = true → (toP d).depth = dpD d
  | .non, _ => by simp [toP, PyData.depth, dpD]
  | .bl _, _ => by simp [toP, PyData.depth, dpD]
  | .int _, _ => by simp [toP, PyData.depth, dpD]
  | .str s, _ => by simp [toP, PyData.depth, dpD]
  | .lst l, h => by simp [toP, PyData.depth, dpD, dps_cm l h]
  | .tup l, h => by simp [toP, PyData.depth, dpD, dps_cm l h]
  | .scr l, _ => by simp [toP, PyData.depth, dpD, dp_ints]
  | .dic _ _, h => by cases h
  | .exc _, h => by cases h
  | .fn _, h => by cases h
theorem dps_cm : ∀ l : List D, cmDs l = true → PyData.depthAll (toPs l) = dpDs l
  | [], _ => by simp [toPs, PyData.depthAll, dpDs]
  | d :: ds, h => by
    rw [show cmDs (d :: ds) = (cmD d && cmDs ds) by simp [cmDs], Bool.and_eq_true] at h
    simp [toPs, PyData.depthAll, dpDs, dp_cm d h.1, dps_cm ds h.2]
end
theorem shD_iff (d : D) : shD d = (cmD d && decide (dpD d ≤ 64)) := by
  unfold shD
  cases h : cmD d with
  | false => rfl
  | true =>
    unfold SeqAt.shaped
    rw [lay_cm d h, dp_cm d h]
    rfl
def eqDs (l m : List D) : Bool := PyData.eqvAll (toPs l) (toPs m)
@[simp] theorem eqD_lst (l m : List D) : eqD (.lst l) (.lst m) = eqDs l m := by simp [eqD, toP, PyData.eqv, eqDs]
@[simp] theorem eqD_tup (l m : List D) : eqD (.tup l) (.tup m) = eqDs l m := by simp [eqD, toP, PyData.eqv, eqDs]
@[simp] theorem eqDs_nil : eqDs [] [] = true := by simp [eqDs, toPs, PyData.eqvAll]
@[simp] theorem eqDs_nc (d : D) (l : List D) : eqDs [] (d :: l) = false := by simp [eqDs, toPs, PyData.eqvAll]
@[simp] theorem eqDs_cn (d : D) (l : List D) : eqDs (d :: l) [] = false := by simp [eqDs, toPs, PyData.eqvAll]
@[simp] theorem eqDs_cons (d e : D) (l m : List D) : eqDs (d :: l) (e :: m) = (eqD d e && eqDs l m) := by simp [eqDs, toPs, PyData.eqvAll, eqD]
theorem mkS_inj {a b : List Char} : mkS a = mkS b ↔ a = b := by
  constructor
  · intro h
    have h2 : a.map Char.toNat = b.map Char.toNat := by
      have := congrArg (fun s : Str => s.cps.toList) h
      simpa [mkS] using this
    exact List.map_inj_right (fun x y e => Char.toNat_inj.mp e) |>.mp h2
  · intro h; rw [h]
@[simp] theorem eqD_str (a b : List Char) : eqD (.str a) (.str b) = decide (a = b) := by
  show PyData.eqv (.str (mkS a)) (.str (mkS b)) = _
  rw [PyData.eqv]
  by_cases h : a = b
  · subst h; simp
  · rw [decide_eq_false h]
    exact beq_eq_false_iff_ne.mpr fun e => h (mkS_inj.mp e)
@[simp] theorem eqD_int (a b : Int) : eqD (.int a) (.int b) = decide (a = b) := by
  show PyData.eqv (.int a) (.int b) = _
  rw [PyData.eqv]
  rfl
@[simp] theorem eqD_bl (a b : Bool) : eqD (.bl a) (.bl b) = decide (a = b) := by
  show PyData.eqv (.bool a) (.bool b) = _
  rw [PyData.eqv]
  cases a <;> cases b <;> rfl
@[simp] theorem eqD_non : eqD .non .non = true := by simp [eqD, toP, PyData.eqv]
@[simp] theorem eqD_int_str (a : Int) (b : List Char) : eqD (.int a) (.str b) = false := by simp [eqD, toP, PyData.eqv]
@[simp] theorem eqD_str_int (a : Int) (b : List Char) : eqD (.str b) (.int a) = false := by simp [eqD, toP, PyData.eqv]
@[simp] theorem eqD_lst_tup (a b : List D) : eqD (.lst a) (.tup b) = false := by simp [eqD, toP, PyData.eqv]
@[simp] theorem eqD_tup_lst (a b : List D) : eqD (.tup a) (.lst b) = false := by simp [eqD, toP, PyData.eqv]
@[simp] theorem eqD_non_str (b : List Char) : eqD .non (.str b) = false := by simp [eqD, toP, PyData.eqv]
@[simp] theorem eqD_str_non (b : List Char) : eqD (.str b) .non = false := by simp [eqD, toP, PyData.eqv]
@[simp] theorem eqD_non_int (b : Int) : eqD .non (.int b) = false := by simp [eqD, toP, PyData.eqv]
@[simp] theorem eqD_int_non (b : Int) : eqD (.int b) .non = false := by simp [eqD, toP, PyData.eqv]
@[simp] theorem eqD_non_tup (b : List D) : eqD .non (.tup b) = false := by simp [eqD, toP, PyData.eqv]
@[simp] theorem eqD_tup_non (b : List D) : eqD (.tup b) .non = false := by simp [eqD, toP, PyData.eqv]
@[simp] theorem eqD_str_tup (a : List Char) (b : List D) : eqD (.str a) (.tup b) = false := by simp [eqD, toP, PyData.eqv]
@[simp] theorem eqD_tup_str (a : List Char) (b : List D) : eqD (.tup b) (.str a) = false := by simp [eqD, toP, PyData.eqv]
@[simp] theorem eqD_int_tup (a : Int) (b : List D) : eqD (.int a) (.tup b) = false := by simp [eqD, toP, PyData.eqv]
@[simp] theorem eqD_tup_int (a : Int) (b : List D) : eqD (.tup b) (.int a) = false := by simp [eqD, toP, PyData.eqv]
@[simp] theorem eqD_str_lst (a : List Char) (b : List D) : eqD (.str a) (.lst b) = false := by simp [eqD, toP, PyData.eqv]
@[simp] theorem eqD_lst_str (a : List Char) (b : List D) : eqD (.lst b) (.str a) = false := by simp [eqD, toP, PyData.eqv]
@[simp] theorem eqD_non_lst (b : List D) : eqD .non (.lst b) = false := by simp [eqD, toP, PyData.eqv]
@[simp] theorem eqD_lst_non (b : List D) : eqD (.lst b) .non = false := by simp [eqD, toP, PyData.eqv]
/-- a way of writing things as data, in which equal data are equal things -/
structure En {α : Type} [DecidableEq α] (enc : α → D) (n : Nat) : Prop where
  cm : ∀ x, cmD (enc x) = true
  dp : ∀ x, dpD (enc x) ≤ n
  eq : ∀ x y, eqD (enc x) (enc y) = decide (x = y)
section
variable {α β : Type} [DecidableEq α] [DecidableEq β] {enc : α → D} {enb : β → D} {n m : Nat}
theorem En.cms (h : En enc n) : ∀ l : List α, cmDs (l.map enc) = true
  | [] => by simp
  | x :: l => by simp [h.cm x, En.cms h l]
theorem En.dps (h : En enc n) : ∀ l : List α, dpDs (l.map enc) ≤ n
  | [] => by simp
  | x :: l => by
    have := h.dp x
    have := En.dps h l
    simp; omega
theorem En.eqs (h : En enc n) : ∀ l m : List α, eqDs (l.map enc) (m.map enc) = decide (l = m)
  | [], [] => by simp
  | [], _ :: _ => by simp
  | _ :: _, [] => by simp
  | x :: l, y :: m => by simp [h.eq x y, En.eqs h l m]
theorem En.lst (h : En enc n) : En (fun l : List α => D.lst (l.map enc)) (n + 1) :=
  ⟨fun l => by simp [h.cms l], fun l => by have := h.dps l; simp; exact this, fun l m => by simp [h.eqs l m]⟩
theorem En.tup (h : En enc n) : En (fun l : List α => D.tup (l.map enc)) (n + 1) :=
  ⟨fun l => by simp [h.cms l], fun l => by have := h.dps l; simp; exact this, fun l m => by simp [h.eqs l m]⟩
theorem En.pair (h : En enc n) (h' : En enb m) : En (fun p : α × β => D.tup [enc p.1, enb p.2]) (max n m + 1) :=
  ⟨fun p => by simp [h.cm p.1, h'.cm p.2], fun p => by have := h.dp p.1; have := h'.dp p.2; simp; omega, fun p q => by
    obtain ⟨a, b⟩ := p; obtain ⟨c, d⟩ := q
    simp [h.eq, h'.eq]⟩
theorem En.sh (h : En enc n) (hn : n ≤ 64) (x : α) : shD (enc x) = true := by
  rw [shD_iff, h.cm x, decide_eq_true (Nat.le_trans (h.dp x) hn)]; rfl
theorem En.dEq (h : En enc n) (hn : n ≤ 64) (x y : α) : G81.dEq (enc x) (enc y) = .ok (decide (x = y)) := by
  unfold G81.dEq; rw [if_pos ⟨h.sh hn x, h.sh hn y⟩, h.eq]
theorem En.dNe (h : En enc n) (hn : n ≤ 64) (x y : α) : G81.dNe (enc x) (enc y) = .ok (!decide (x = y)) := by
  unfold G81.dNe; rw [if_pos ⟨h.sh hn x, h.sh hn y⟩, h.eq]
end
theorem en_str : En D.str 0 := ⟨fun _ => by simp, fun _ => by simp, fun a b => by simp⟩
theorem en_int : En D.int 0 := ⟨fun _ => by simp, fun _ => by simp, fun a b => by simp⟩
theorem en_nat : En (fun n : Nat => D.int n) 0 := ⟨fun _ => by simp, fun _ => by simp, fun a b => by simp; omega⟩
theorem en_bl : En D.bl 0 := ⟨fun _ => by simp, fun _ => by simp, fun a b => by simp⟩
@[simp] theorem dEq_str (a b : List Char) : dEq (.str a) (.str b) = .ok (decide (a = b)) := en_str.dEq (by decide) a b
@[simp] theorem dNe_str (a b : List Char) : dNe (.str a) (.str b) = .ok (!decide (a = b)) := en_str.dNe (by decide) a b
@[simp] theorem dEq_int (a b : Int) : dEq (.int a) (.int b) = .ok (decide (a = b)) := en_int.dEq (by decide) a b
@[simp] theorem dNe_int (a b : Int) : dNe (.int a) (.int b) = .ok (!decide (a = b)) := en_int.dNe (by decide) a b
@[simp] theorem dEq_bl (a b : Bool) : dEq (.bl a) (.bl b) = .ok (decide (a = b)) := en_bl.dEq (by decide) a b
@[simp] theorem dNe_bl (a b : Bool) : dNe (.bl a) (.bl b) = .ok (!decide (a = b)) := en_bl.dNe (by decide) a b
/-- equality of any data that can be compared -/
theorem dEq_sh {d e : D} (h1 : shD d = true) (h2 : shD e = true) : dEq d e = .ok (eqD d e) := by unfold dEq; rw [if_pos ⟨h1, h2⟩]
theorem dNe_sh {d e : D} (h1 : shD d = true) (h2 : shD e = true) : dNe d e = .ok (!eqD d e) := by unfold dNe; rw [if_pos ⟨h1, h2⟩]
open L2 in
theorem dIx_nat_tup (l : List D) (n : Nat) : dIx (.tup l) (.int n) = match l[n]? with | some x => .ok x | none => .bad := by
  have : atI l (n : Int) = l[n]? := by
    unfold atI ixN
    by_cases h : n < l.length
    · simp [h]
    · simp [h]
  simp only [dIx, this] <;> cases l[n]? <;> rfl
open L2 in
theorem dIx_nat_lst (l : List D) (n : Nat) : dIx (.lst l) (.int n) = match l[n]? with | some x => .ok x | none => .bad := by
  have : atI l (n : Int) = l[n]? := by
    unfold atI ixN
    by_cases h : n < l.length
    · simp [h]
    · simp [h]
  simp only [dIx, this] <;> cases l[n]? <;> rfl
open L2 in
theorem dIx_nat_str (l : List Char) (n : Nat) (hl : l.length ≤ line) : dIx (.str l) (.int n) = match l[n]? with | some x => .ok (.str [x]) | none => .bad := by
  have : atI l (n : Int) = l[n]? := by
    unfold atI ixN
    by_cases h : n < l.length
    · simp [h]
    · simp [h]
  simp only [dIx, this, if_pos hl] <;> cases l[n]? <;> rfl
@[simp] theorem dIx_tup0 (a : D) (l : List D) : dIx (.tup (a :: l)) (.int 0) = .ok a := dIx_nat_tup (a :: l) 0
@[simp] theorem dIx_tup1 (a b : D) (l : List D) : dIx (.tup (a :: b :: l)) (.int 1) = .ok b := dIx_nat_tup (a :: b :: l) 1
@[simp] theorem dIx_tup2 (a b c : D) (l : List D) : dIx (.tup (a :: b :: c :: l)) (.int 2) = .ok c := dIx_nat_tup (a :: b :: c :: l) 2
@[simp] theorem dIx_lst0 (a : D) (l : List D) : dIx (.lst (a :: l)) (.int 0) = .ok a := dIx_nat_lst (a :: l) 0
@[simp] theorem dIx_lst1 (a b : D) (l : List D) : dIx (.lst (a :: b :: l)) (.int 1) = .ok b := dIx_nat_lst (a :: b :: l) 1
@[simp] theorem dIx_lst2 (a b c : D) (l : List D) : dIx (.lst (a :: b :: c :: l)) (.int 2) = .ok c := dIx_nat_lst (a :: b :: c :: l) 2
theorem cutL_drop {α : Type} (xs : List α) (n : Nat) : cutL xs (some (n : Int)) none = xs.drop n := by
  unfold cutL
  rw [HT.sIx_nat, HT.sIx_none]
  by_cases h : n ≤ xs.length
  · rw [Nat.min_eq_left h, List.take_of_length_le (by simp)]
  · rw [Nat.min_eq_right (by omega), List.drop_of_length_le (Nat.le_refl _), List.drop_of_length_le (by omega)]; simp
theorem cutL_take {α : Type} (xs : List α) (n : Nat) : cutL xs none (some (n : Int)) = xs.take n := by
  unfold cutL
  rw [HT.sIx_nat, HT.sIx_none]
  by_cases h : n ≤ xs.length
  · rw [Nat.min_eq_left h]; simp
  · rw [Nat.min_eq_right (by omega)]; simp; rw [List.take_of_length_le (by omega)]
theorem cutL_mid {α : Type} (xs : List α) (m n : Nat) : cutL xs (some (m : Int)) (some (n : Int)) = (xs.drop m).take (n - m) := by
  unfold cutL
  rw [HT.sIx_nat, HT.sIx_nat]
  by_cases h1 : m ≤ xs.length
  · rw [Nat.min_eq_left h1]
    by_cases h2 : n ≤ xs.length
    · rw [Nat.min_eq_left h2]
    · rw [Nat.min_eq_right (by omega), List.take_of_length_le (by simp), List.take_of_length_le (by simp; omega)]
  · rw [List.drop_of_length_le (by omega), List.drop_of_length_le (by omega)]; simp
end G81

/-! an index of what changes a list of one's own. -/
namespace G81
open PySem PySem.Spec PyProof.Rows L2
section
variable {ι : Type} {X : ι → Cx} {G : Gx} {E : XK} {N : List Str} {k : Nat} {O : List Nat} {pos p : Pos} {a : Expr}
theorem xm_ix {i : Int} {j : Nat} {f : Ev → R (D × Ev)} (C : CxOk X G N k E) (ha : XM X G E O a f) (hs : PlainIx (.Constant (.int i) j p) := by intro _ _; rfl) : XM X G E O (.Subscript a (.Constant (.int i) j p) pos) (xIx f i) := by
  obtain ⟨ta, pa, ra⟩ := ha.ex
  obtain ⟨tb, pb, rb⟩ := (em_int (X := X) (G := G) (E := E) (m := false) (O := O) (i := i) (j := j) (pos := p)).ex
  refine ⟨tOp (rIx G.K) ta tb, fun i => pe_ix (by have q := ix_seq (X := X i); rw [C.eK i] at q; exact q) (pa i) (pb i) hs, fun F0 H0 F σ H env Q rl h => ra F0 H0 F σ H env _ rl ?_⟩
  unfold xIx at h
  cases hf : f env with
  | err c => rw [hf] at h; exact h
  | bad => rw [hf] at h; exact h
  | ok q =>
    obtain ⟨x, env1⟩ := q
    rw [hf] at h
    simp only [R.bind_ok] at h
    intro vx F1 H1 s1 r1 rv
    refine rb F0 H0 F1 σ H1 env1 _ r1 ?_
    intro vy F2 H2 e2 r2
    cases r2
    have r1' := rv.mono e2.f _ _
    have S2 := s1.trans e2.f
    have R2 := r1.grow e2
    cases x with
    | lst l =>
      obtain ⟨p, xs, rfl, q1, q2⟩ := r1'
      simp only [dIx] at h
      cases hd : atI l i with
      | none => rw [hd] at h; exact h.elim
      | some d =>
        rw [hd] at h
        obtain ⟨v, hv, rv⟩ := q2.at hd
        exact .inl ⟨p, xs, _, v, rfl, rfl, .inl (.inl (R2.ext.i _ _ q1)), hv, h v F2 H2 S2 R2 rv⟩
    | tup l =>
      obtain ⟨p, xs, rfl, q1, q2⟩ := r1'
      simp only [dIx] at h
      cases hd : atI l i with
      | none => rw [hd] at h; exact h.elim
      | some d =>
        rw [hd] at h
        obtain ⟨v, hv, rv⟩ := q2.at hd
        exact .inr (.inl ⟨p, xs, _, v, rfl, rfl, same_sqT R2.ext.i q1, hv, h v F2 H2 S2 R2 rv⟩)
    | scr l =>
      obtain ⟨p, rfl, q1⟩ := r1'
      simp only [dIx] at h
      cases hd : atI l i with
      | none => rw [hd] at h; exact h.elim
      | some d =>
        rw [hd] at h
        exact .inl ⟨p, _, _, .int d, rfl, rfl, R2.ext.i.seq q1, by rw [atI_map, hd]; rfl, h _ F2 H2 S2 R2 rfl⟩
    | str s =>
      cases r1'
      simp only [dIx] at h
      by_cases hz : s.length ≤ line
      · rw [if_pos hz] at h
        cases hc : atI s i with
        | none => rw [hc] at h; exact h.elim
        | some c =>
          rw [hc] at h
          exact .inr (.inr ⟨_, _, c.toNat, rfl, rfl, by rw [str_len, line_eq]; exact hz, by show atI (List.map Char.toNat _) _ = _; rw [atI_map, hc]; rfl, h _ F2 H2 S2 R2 rfl⟩)
      · rw [if_neg hz] at h; exact h.elim
    | _ => exact h.elim
end
end G81

/-! sorted of ints; endswith. -/
namespace G81
open PySem PySem.Spec PyProof.Rows L2
def intsD : List D → Option (List Int)
  | [] => some []
  | .int i :: l => (intsD l).map (i :: ·)
  | _ :: _ => none
def srtI (l : List Int) : List Int := l.mergeSort (fun x y => decide (x ≤ y))
def dSorted : List D → R D
  | [.lst l] => match intsD l with
    | some ns => .ok (.lst ((srtI ns).map D.int))
    | none => .bad
  | _ => .bad
theorem intsD_rep {G : Gx} {F : Hp} : ∀ {l : List D} {xs : List V} {ns : List Int}, RepL G F l xs → intsD l = some ns → xs = ns.map V.int
  | [], xs, ns, r, h => by cases r; cases h; rfl
  | d :: l, xs, ns, ⟨v, vs, e, r1, r2⟩, h => by
    subst e
    cases d <;> first | cases h; done | skip
    rename_i i
    simp only [intsD] at h
    cases hl : intsD l with
    | none => rw [hl] at h; cases h
    | some ms =>
      rw [hl] at h
      simp only [Option.map_some, Option.some.injEq] at h
      subst h
      cases r1
      rw [intsD_rep r2 hl]; rfl
theorem srt_one : ∀ {a b : List Int}, a.Perm b → a.Pairwise (· ≤ ·) → b.Pairwise (· ≤ ·) → a = b := fun h h1 h2 => h.eq_of_pairwise (fun x y _ _ p q => Int.le_antisymm p q) h1 h2
theorem srt_eq {ns' ns : List Int} (hp : ns'.Perm ns) (hs : ns'.Pairwise (· ≤ ·)) : ns' = srtI ns := by
  have h2 : (srtI ns).Pairwise (· ≤ ·) := by
    have := List.pairwise_mergeSort (le := fun x y : Int => decide (x ≤ y)) (fun a b c p q => by simp at p q ⊢; omega) (fun a b => by simp; omega) ns
    exact this.imp fun h => by simpa using h
  exact srt_one (hp.trans (List.mergeSort_perm ns _).symm) hs h2
theorem srt_of {ns : List Int} (hs : ns.Pairwise (· ≤ ·)) : srtI ns = ns := (srt_eq (.refl ns) hs).symm
section
variable {ι : Type} {X : ι → Cx} {G : Gx} {E : XK} {N : List Str} {k : Nat} {O : List Nat} {m m' : Bool} {pos p apos : Pos} {a e : Expr} {fa fe : Ev → R D}
theorem ca_sorted (C : CxOk X G N k E) : CaO X G E (.builtin "sorted") dSorted := by
  refine ⟨_, fun i => by have q := cr_sortedI (X := X i); rw [C.eK i] at q; exact q, fun F H vs ds Q s rv h => ?_⟩
  unfold dSorted at h
  split at h
  · rename_i l
    obtain ⟨v, rfl, a, xs, rfl, q1, q2⟩ := repL1 rv
    cases hl : intsD l with
    | none => rw [hl] at h; exact h.elim
    | some ns =>
      rw [hl] at h
      have hx := intsD_rep q2 hl
      subst hx
      refine ⟨a, ns, rfl, .inl (.inl (s _ _ q1)), fun ns' p h1 h2 hp => ?_⟩
      rw [srt_eq h1 h2]
      refine h _ F _ (.own s hp) ⟨p, _, _, rfl, rfl, hp, s.free hp, upd_same, ?_⟩
      have go : ∀ z : List Int, RepL G F (z.map D.int) (z.map V.int) := by
        intro z
        induction z with
        | nil => rfl
        | cons c z ih => exact ⟨_, _, rfl, rfl, ih⟩
      exact go _
  · exact h.elim
def dEnds (s : List Char) (d : D) : R D := match d with
  | .str b => .ok (.bl (Txt.endswith (mkS s) (mkS b)))
  | _ => .bad
theorem em_ends (C : CxOk X G N k E) (ha : EM X G E false O a fa) (he : EM X G E false O e fe) (hs : ∀ i, starEach [e] (X i).env = [(false, eval e (X i).env)] := by intro _; rfl) (hbase : ∀ i, attributeBase a "endswith" (X i).env (eval a (X i).env) = eval a (X i).env := by intro _; rfl) (hline : (apos.endLine == pos.line) = true := by rfl) :
    EM X G E m O (.Call (.Attribute a "endswith" apos) [e] [] pos) (eMs dEnds fa fe) := by
  refine em_ms C PySem.F.slot_str_endswith PySem.F.type_str_endswith (fun i => mt_endswith (X := X i)) (fun F H s d v Q i rv h => ?_) ha he hs hbase hline
  cases d <;> first | exact h.elim | skip
  cases rv
  exact ⟨_, _, rfl, rfl, h _ F H (.refl i) rfl⟩
end
end G81

/-! enumerate over a text. -/
namespace G81
open PySem PySem.Spec PyProof.Rows L2
/-- the signs of a text with their places, each pair new -/
def Ites (x : Str) : It :=
  ⟨fun i _ => i < x.cps.size, fun i H v H' => ∃ T c, v = .ref T ∧ H T = none ∧ x.cps[i]? = some c ∧ H' = upd H T (.tup [.int (i : Nat), .str ⟨#[c]⟩]), fun i _ => x.cps.size ≤ i⟩
theorem turn_es {P : Program} {w : World} {K : PySem.W.Frag} {elts : List Expr} {kk : Nat} {tpos : Pos} (e it : Addr) (x : Str) (t : Tok) (ty : String) (hty : ty = "str_ascii_iterator" ∨ ty = "str_iterator") (hne : e ≠ it) :
    Turn P w K (.Tuple elts kk tpos) (Ites x) [e, it] e (fun i h => (∃ old, IsEnum h e it ((i : Nat) : Int) old) ∧ h.IsStrIter it ty x t i ∧ i ≤ x.cps.size) where
  mem := by simp
  obj := fun i h st b hb => by
    obtain ⟨⟨old, he⟩, ⟨o, ho, hc, hd⟩, _⟩ := st
    simp only [List.mem_cons, List.not_mem_nil, or_false] at hb
    rcases hb with r | r <;> subst r
    · exact ⟨_, he, fun v q => nomatch q⟩
    · exact ⟨o, ho, fun v q => by rw [hd] at q; cases q⟩
  keep := fun i h h' st k => by
    obtain ⟨⟨old, he⟩, ⟨o, ho, r⟩, hi⟩ := st
    exact ⟨⟨old, k e (by simp) _ he⟩, ⟨o, k it (by simp) o ho, r⟩, hi⟩
  item := by
    intro X hP hw hK hc i pins s σ H E I hf st hg
    subst hP hw hK
    obtain ⟨⟨old, he⟩, hit, hi⟩ := st
    have hh : X.A.in1.handled = none := I.ok.hd hc
    have D : Draws X.prog X.w X.A.in1 it [it] x.cps.size (fun i v => ∃ c u, x.cps[i]? = some c ∧ v = .str ⟨#[c]⟩ u) (fun i h => h.IsStrIter it ty x t i) := by
      rcases hty with z | z
      · rw [z]; exact Draws.strAscii hh it x t
      · rw [z]; exact Draws.strWide hh it x t
    have hel : e < s.heap.objs.size := Heap.lt_size he
    have hil : it < s.heap.objs.size := by obtain ⟨_, q, _⟩ := hit; exact Heap.lt_size q
    refine wpAny_pyNext_enum_itemD D he hit hg hne (by simpa using hne) fun v h' tk hv ho hit' hT hsz hk => ?_
    obtain ⟨c, u, hcx, rfl⟩ := hv
    refine ⟨_, rfl, wpAny_letOwnedTupleGo_enum (s := { s with heap := h', toks := tk + 1 }) ho fun h'' he' sb => ?_⟩
    have hT2 : h''.get? s.heap.objs.size = some { cls := .type "tuple", data := .seq #[.int i tk, .str ⟨#[c]⟩ u] } := (sb.2 _ (Nat.ne_of_gt hel)).trans hT
    have new : ObjOk X.prog X.w (upd H s.heap.objs.size (.tup [.int (i : Nat), .str ⟨#[c]⟩])) h'' s.heap.objs.size (.tup [.int (i : Nat), .str ⟨#[c]⟩]) :=
      ⟨by show 2 ≤ sizeLine; decide, [.int i tk, .str ⟨#[c]⟩ u], .cons ⟨_, rfl⟩ (.cons ⟨_, rfl⟩ .nil), ⟨_, hT2, rfl, _, rfl⟩⟩
    have I1 : Inv X pins σ (upd H s.heap.objs.size (.tup [.int (i : Nat), .str ⟨#[c]⟩])) { s with heap := h'', toks := tk + 1 } :=
      I.turnedNew (ch := [e, it]) (fun b ob hb q => (sb.2 b (fun z => hb (by simp [z]))).trans (hk b ob (fun z => hb (by simp [z])) (fun z => hb (by simp [z])) q)) hf (Nat.le_refl _) new
    obtain ⟨o2, ho2, r2⟩ := hit'
    refine ⟨.ref s.heap.objs.size, _, I1, rfl, ⟨_, c, rfl, I.hok.fresh (Nat.le_refl _), hcx, rfl⟩, ⟨⟨.str ⟨#[c]⟩ u, ?_⟩, ⟨o2, (sb.2 it (Ne.symm hne)).trans ho2, r2⟩, hg⟩, fun b hb => ?_⟩
    · rw [Int.natCast_succ]; exact he'
    · have lt : b < s.heap.objs.size := by
        simp only [List.mem_cons, List.not_mem_nil, or_false] at hb
        rcases hb with r | r <;> subst r
        · exact hel
        · exact hil
      rw [upd_ne (Nat.ne_of_lt lt)]
      exact (hf b hb).1
  done := by
    intro X hP hw hK hc i pins s σ H E I hf st hg
    subst hP hw hK
    obtain ⟨⟨old, he⟩, hit, hi⟩ := st
    have hh : X.A.in1.handled = none := I.ok.hd hc
    obtain ⟨f0, f1, f2, f3, f4, f5⟩ := hf it (by simp)
    have hi2 : i = x.cps.size := Nat.le_antisymm hi hg
    subst hi2
    have D : Draws X.prog X.w X.A.in1 it [it] x.cps.size (fun i v => ∃ c u, x.cps[i]? = some c ∧ v = .str ⟨#[c]⟩ u) (fun i h => h.IsStrIter it ty x t i) := by
      rcases hty with z | z
      · rw [z]; exact Draws.strAscii hh it x t
      · rw [z]; exact Draws.strWide hh it x t
    exact wpAny_pyNext_enum_endD D he hit fun h' eb => ⟨rfl, I.turned (t' := s.toks) (fun b o hb q => eb b o hb q) f0 f1 f3 f4 f5⟩
  self := fun A i s Q E st h => by
    obtain ⟨⟨old, he⟩, _⟩ := st
    exact wpAny_pyIter_enum he h
theorem pi_es {X : Cx} {e : Expr} {ta : TA} {p pos tpos : Pos} {elts : List Expr} {kk : Nat} (hg : Gl X "enumerate") (hm : X.mg "enumerate" = none) (ha : PA X [e] ta) (hs : starEach [e] X.env = [(false, eval e X.env)] := by rfl) :
    PI X (.Tuple elts kk tpos) (.Call (.Name "enumerate" p) [e] [] pos) (fun σ H R => ta σ H fun vs H1 => ∃ x, vs = [.str x] ∧ R (Ites x) H1) := by
  refine ⟨fun pins s σ H R I h => ?_⟩
  refine Call_ (ld_blt I hg hm boot_enumerate (PyProof.Rows.callWith_type1 (thn (ha.run pos pins s σ H _ I h) fun us s1 ⟨vs, H1, I1, r1, q1⟩ => ?_) hs rfl))
  obtain ⟨x, rfl, q⟩ := q1
  cases r1 with
  | cons r rr =>
    cases rr
    obtain ⟨t, rfl⟩ := r
    refine call_enumerate_str fun h' he hit hsz hk => wpAny_pyIter_enum he ?_
    have I2 : Inv X pins σ H1 { s1 with heap := h' } := I1.kept (t' := s1.toks) hk
    have hty : strIterType x = "str_ascii_iterator" ∨ strIterType x = "str_iterator" := by
      unfold strIterType; split <;> simp
    refine ⟨s1.heap.objs.size + 1, [s1.heap.objs.size + 1, s1.heap.objs.size], _, _, H1, rfl, I2, turn_es (s1.heap.objs.size + 1) s1.heap.objs.size x t (strIterType x) hty (Nat.succ_ne_self _), ⟨⟨.none, he⟩, hit, Nat.zero_le _⟩, fun b hb => ?_, q⟩
    have hle : s1.heap.objs.size ≤ b := by
      simp only [List.mem_cons, List.not_mem_nil, or_false] at hb
      rcases hb with r | r <;> (rw [r]; first | exact Nat.le_add_right _ _ | exact Nat.le_refl _)
    exact I1.fpOk hle (I1.hok.fresh hle)
/-- enumerate of a text -/
@[simp] def iEs (g : Ev → R (List D)) : Ev → R (List D) := fun env => (g env).bind fun ds => match ds with
  | [.str s] => .ok (enD 0 (s.map fun c => D.str [c]))
  | _ => .bad
section
variable {ι : Type} {X : ι → Cx} {G : Gx} {E : XK} {N : List Str} {k : Nat} {m : Bool} {O : List Nat} {a : Expr} {g : Ev → R (List D)} {elts : List Expr} {kk : Nat} {tpos p pos : Pos}
theorem walk_es {b m : Bool} {F1 H1 : Hp} (s : List Char) : WalkOk G b m (Ites (mkS s)) F1 H1 (enD 0 (s.map fun c => D.str [c])) := by
  intro i F H s1 s2 s3
  have sz : (mkS s).cps.size = s.length := by simp [mkS]
  refine ⟨fun d hd => ?_, fun hi => by
    show (mkS s).cps.size ≤ i
    rw [sz]; rw [enD_len, List.length_map] at hi; exact hi⟩
  obtain ⟨d1, hd1, rfl⟩ := enD_get 0 _ i d hd
  rw [List.getElem?_map] at hd1
  cases hc : s[i]? with
  | none => rw [hc] at hd1; cases hd1
  | some c =>
    rw [hc] at hd1
    cases hd1
    have hlt := (List.getElem?_eq_some_iff.mp hc).1
    refine ⟨by show i < (mkS s).cps.size; rw [sz]; exact hlt, fun v H' hy => ?_⟩
    obtain ⟨T, n, rfl, nT, hn, rfl⟩ := hy
    have hn2 : (mkS s).cps[i]? = some c.toNat := by
      show ((s.map Char.toNat).toArray)[i]? = _
      rw [List.getElem?_toArray, List.getElem?_map, hc]; rfl
    rw [hn2] at hn
    cases hn
    refine ⟨_, .new s2 nT, ?_⟩
    rw [wd_upd]
    refine ⟨T, _, rfl, .inl (.inl upd_same), ⟨_, _, rfl, ?_, ⟨_, _, rfl, rfl, rfl⟩⟩⟩
    show V.int _ = V.int _
    rw [Nat.zero_add]
theorem im_es {b' : Bool} (C : CxOk X G N k E) (hg : ∀ i, Gl (X i) "enumerate") (hm : G.mg "enumerate" = none) (ha : AM X G E m O [a] g) (hs : ∀ i, starEach [a] (X i).env = [(false, eval a (X i).env)] := by intro _; rfl) :
    IM X G E b' m O (.Tuple elts kk tpos) (.Call (.Name "enumerate" p) [a] [] pos) (iEs g) := by
  obtain ⟨t, ht, rd⟩ := ha.ex
  refine ⟨_, fun i => pi_es (elts := elts) (kk := kk) (tpos := tpos) (p := p) (pos := pos) (hg i) (by rw [C.emg i]; exact hm) (ht i) (hs i), fun F0 H0 F σ H env Q rl h => rd F0 H0 F σ H env _ rl (PostG.bind antiW h fun ds vs F1 H1 e1 r1 h1 => ?_)⟩
  split at h1
  · obtain ⟨v, rfl, rv⟩ := repL1 r1
    cases rv
    exact ⟨_, rfl, h1 _ F1 H1 (.refl e1.i) (walk_es _)⟩
  · exact h1.elim
end
end G81

/-! A set of a list of ints, to be sorted. -/
namespace G81
open PySem PySem.Spec PyProof.Rows L2
section
variable {prog : Program} {w : World} {A : Around} {E : Value → Shared → Prop}
/-- what is met so far, and how many -/
def metS (val : Nat → Int) (i : Nat) : Int → Bool := fun k => (firstMet val i).any (· == k)
def metN (val : Nat → Int) (i : Nat) : Nat := (firstMet val i).length
theorem upd_loopR {R : Result → Shared → Prop} {I S : Addr} {fp wr : List Addr} {T : Array GenState → Array GenState → Prop} {n : Nat} {P : Nat → Value → Prop} {St : Nat → Shared → Prop}
    (W : WalksS prog w A.in1 I fp wr T n P St) (hS : S ∉ fp) (val : Nat → Int) (hv : ∀ i v, P i v → ∃ t, v = .int (val i) t) (hn : n + 1 < scanBound) :
    ∀ (d i : Nat) (s : Shared), i + d = n → St i s → SetR w s.heap S (metS val i) (metN val i) →
      (∀ s', Moved (S :: wr) T s s' → SetR w s'.heap S (metS val n) (metN val n) → R (.ok (.ret .none)) s') →
      codeAny (model prog w) A (.builtin "set.update.loop" ⟨[.ref S, .ref I], []⟩) R s := by
  have out : S ∉ wr := fun q => hS (W.sub _ q)
  have up : ∀ c ∈ wr, c ∈ S :: wr := fun c q => List.mem_cons_of_mem _ q
  intro d
  induction d with
  | zero =>
    intro i s e st r fin
    obtain rfl : i = n := by omega
    refine codeAny_builtin F.entry_set_update_loop ?_
    rw [Around.under_plainId F.plain_set_update_loop _]
    show wpAny _ A.in1 (pyNext (.ref I) >>= _) _ _ s
    refine wpAny_bind (W.done s _ _ st fun s' mv => ?_)
    show wpAny _ A.in1 (ret Value.none) _ _ s'
    exact wpAny_pure (fin s' (mv.mono up) (r.at fun o q => mv.heap S _ out q))
  | succ d ih =>
    intro i s e st r fin
    refine codeAny_builtin F.entry_set_update_loop ?_
    rw [Around.under_plainId F.plain_set_update_loop _]
    show wpAny _ A.in1 (pyNext (.ref I) >>= _) _ _ s
    refine wpAny_bind (W.item i s _ _ (by omega) st fun v s1 pv st1 mv => ?_)
    obtain ⟨t, rfl⟩ := hv i v pv
    have r1 : SetR w s1.heap S (metS val i) (metN val i) := r.at fun o q => mv.heap S _ out q
    show wpAny _ A.in1 (holding [Value.int (val i) t] (setAdd S (.int (val i) t)) >>= _) _ _ s1
    refine wpAny_bind (wpAny_holding ?_)
    unfold setAdd
    refine wpAny_holding (wpAny_bind ((intKind prog w).pyHash (k := val i) (intKind_is _ _ _ _) ?_))
    have room : metN val i + 1 < scanBound := by have := firstMet_length_le val i; unfold metN; omega
    refine setR_add_hashed (s := { s1 with toks := s1.toks + 1 }) r1 room fun h2 sb r2 => ?_
    have r3 : SetR w h2 S (metS val (i + 1)) (metN val (i + 1)) := by
      have e1 : ∀ k, metS val (i + 1) k = (metS val i k || decide (k = val i)) := fun k => by unfold metS; rw [firstMet_succ, step_any]
      have e2 : metN val (i + 1) = if metS val i (val i) = true then metN val i else metN val i + 1 := by unfold metN metS; rw [firstMet_succ, step_length]
      rw [e2]
      exact r2.congr e1
    refine wpAny_pure ⟨plainId_quiet F.plain_set_update_loop _, ih (i + 1) _ (by omega) (W.frame _ s1 _ _ st1 (Nat.le_succ _) fun c hc o q => ?_) r3 fun s2 mv2 r4 => ?_⟩
    · have hne : c ≠ S := fun z => hS (z ▸ hc)
      rw [sb.2 c hne]; exact q
    · refine fin s2 (Moved.trans W.gtrans ((mv.mono up).then_heap (Nat.le_succ _) fun c o hc q => ?_) mv2) r4
      have hne : c ≠ S := fun z => hc (by rw [z]; exact List.mem_cons_self)
      rw [sb.2 c hne]; exact q
variable {s : Shared}
/-- the empty set that set(xs) begins with -/
def set0 (w : World) : Obj := { cls := .type "set", dict := none, data := .set #[] 0 (.fresh 0 0 (!w.params.followText "set-order")) }
theorem set_newR (a : Value) {Q : Value → Shared → Prop} (h : Q (.ref s.heap.objs.size) { s with heap := s.heap.push (set0 w) }) :
    codeAny (model prog w) A (.call (.builtin "set.__new__") ⟨[.type "set", a], []⟩) (wants Q E) s := by
  refine codeAny_of_tree ?_
  show wpAny _ A.in1 (do checkBuiltinCall "set.__new__" ⟨[.type "set", a], []⟩; again (.builtin "set.__new__" ⟨[.type "set", a], []⟩)) _ _ s
  refine wpAny_bind (wpAny_of_eq (F.newCall_set_1 a) (wpAny_pure ⟨plainId_quiet F.plain_set_new _, codeAny_builtin F.entry_set_new ?_⟩))
  rw [Around.under_plainId F.plain_set_new _]
  unfold Builtin.«set.__new__» Builtin.Frozenset.newClass
  have known := sub_set_self
  rcases s with ⟨hp, g, d, tk, os⟩
  dsimp only
  wp_walk
  refine wpAny_askSetting (wpAny_pure ?_)
  dsimp only
  simp only [newObj]
  exact wpAny_bind (wpAny_alloc (wpAny_pure (wpAny_pure h)))
set_option maxHeartbeats 3200000 in
theorem set_callR {l : Addr} {items : Array Value} {ns : List Int} {Q : Value → Shared → Prop} (hh : A.handled = none) (hl : s.heap.IsList l items) (hi : IntsAre items.toList ns) (hb : items.size + 1 < scanBound)
    (h : ∀ (h' : Heap) (tk : Nat), SetR w h' s.heap.objs.size (metS (fun i => ns.getD i 0) items.size) (metN (fun i => ns.getD i 0) items.size) →
      (∀ b o, b < s.heap.objs.size → s.heap.get? b = some o → h'.get? b = some o) → Q (.ref s.heap.objs.size) { s with heap := h', toks := tk }) :
    wpAny (model prog w) A (call (.type "set") [.ref l]) Q E s := by
  obtain ⟨c, tl, m0⟩ := F.called_set.mro
  have m1 := F.called_set.made
  have m2 := F.called_set.sub
  refine wpAny_call (codeAny_of_tree ?_)
  show wpAny _ _ (callAny (.type "set") _) _ _ _
  refine wpAny_pure ⟨Code.quiet_builtin _ (by decide +kernel), codeAny_builtin F.entry_type_call ?_⟩
  rw [Around.under_plain (weight_type_call_type "set" [.ref l] []) rfl]
  have m3 := F.called_set.notType
  have m4 := F.called_set.canCreate
  have m5 := F.typeCall_set_1 (.ref l)
  repeat (any_goals (first | assumption | wp_step))
  refine codeAny_mono (set_newR (.ref l) (E := E) (Q := fun obj s₁ => obj = .ref s.heap.objs.size ∧ s₁ = { s with heap := s.heap.push (set0 w) }) ⟨rfl, rfl⟩) fun r s₁ hr => ?_
  cases r with
  | error e => exact hr
  | ok fl =>
    cases fl with
    | ret obj =>
      obtain ⟨rfl, rfl⟩ := hr
      have at0 : (s.heap.push (set0 w)).get? s.heap.objs.size = some (set0 w) := Heap.get?_push_size _ rfl
      have ty : Shared.TypeIs { s with heap := s.heap.push (set0 w) } (.ref s.heap.objs.size) "set" := ⟨_, at0, rfl⟩
      have m6 := F.called_set.init.lookup
      have m7 := F.called_set.init.bind (.ref s.heap.objs.size)
      repeat (any_goals (first | assumption | wp_step))
      refine codeAny_mono (codeAny_call_builtin (R := wants (fun r s₂ => r = .none ∧ ∃ h' tk, s₂ = { s with heap := h', toks := tk } ∧ SetR w h' s.heap.objs.size (metS (fun i => ns.getD i 0) items.size) (metN (fun i => ns.getD i 0) items.size) ∧
          (∀ b o, b < s.heap.objs.size → s.heap.get? b = some o → h'.get? b = some o)) E) F.called_set.init.plain F.entry_set_init (check_set_init_1 ty ?_)) fun r₂ s₂ hr₂ => ?_
      · obtain ⟨ol, hol, hcl, nl, hdl⟩ := hl
        obtain ⟨oc, od, oda, osl⟩ := ol
        simp only at hcl hdl
        subst hcl; subst hdl
        have hol' : (s.heap.push (set0 w)).get? l = some { cls := .type "list", dict := od, data := .seq items nl, slots := osl } := Heap.get?_push_of_some _ hol
        have n1 := F.sub_list_set
        have n2 := F.sub_list_frozenset
        have n3 : (Value.type "list" == Value.type "dict") = false := by decide
        have hl1 : (s.heap.push (set0 w)).IsList l items := ⟨_, hol', rfl, nl, rfl⟩
        unfold Builtin.«set.__init__» noKeywords Builtin.Frozenset.updateFrom
        generalize hPI : pyIter = PI
        wp_walk
        subst hPI
        refine wpAny_pyIter_list hl1 (wpAny_bind (wpAny_runValue ?_))
        have hlS : l < s.heap.objs.size := Heap.lt_size hol
        have hh3 : A.in1.in1.in1.handled = none := by simp [hh]
        have hsz : (s.heap.push (set0 w)).objs.size = s.heap.objs.size + 1 := Heap.size_push ..
        have hne : l ≠ (s.heap.push (set0 w)).objs.size := by rw [hsz]; exact Nat.ne_of_lt (Nat.lt_succ_of_lt hlS)
        have hSf : s.heap.objs.size ∉ [(s.heap.push (set0 w)).objs.size, l] := by
          rw [hsz]; simp only [List.mem_cons, List.not_mem_nil, or_false, not_or]
          exact ⟨Nat.ne_of_lt (Nat.lt_succ_self _), Nat.ne_of_gt hlS⟩
        refine upd_loopR ((Walks.list hh3 _ l hne items).toS) hSf (fun i => ns.getD i 0) (fun i v hv => IntsAre.int_at hi i v (by rw [Array.getElem?_toList]; exact hv)) hb items.size 0 _ (by omega)
          ⟨⟨_, Heap.get?_push_size _ rfl, rfl, rfl⟩, (hl1.push _)⟩ ?_ ?_
        · exact (setR_fresh (h := s.heap) w).at fun o q => Heap.get?_push_of_some _ q
        · intro s' mv r
          obtain ⟨h', g', d', tk', os'⟩ := s'
          have eg : g' = s.gens := mv.gens
          have ed : d' = s.drawn := mv.drawn
          have eo : os' = s.os := mv.os
          subst eg; subst ed; subst eo
          show wpAny _ _ _ _ _ _
          refine wpAny_pure ?_
          show wpAny _ _ (ret Value.none) _ _ _
          refine wpAny_pure ⟨rfl, h', tk', rfl, r, fun b o hb e => ?_⟩
          have b1 : b ≠ s.heap.objs.size := Nat.ne_of_lt hb
          have b2 : b ≠ (s.heap.push (set0 w)).objs.size := by rw [hsz]; exact Nat.ne_of_lt (Nat.lt_succ_of_lt hb)
          exact mv.heap b o (by simp only [List.mem_cons, List.not_mem_nil, or_false, not_or]; exact ⟨b1, b2⟩) (Heap.get?_push_of_some _ (Heap.get?_push_of_some _ e))
      · cases r₂ with
        | error e => exact hr₂
        | ok fl₂ =>
          cases fl₂ with
          | ret r =>
            obtain ⟨rfl, h', tk, rfl, hS', hk'⟩ := hr₂
            repeat (any_goals (first | assumption | wp_step))
            exact h _ _ hS' hk'
          | _ => exact hr₂.elim
    | _ => exact hr.elim
end
end G81

/-! sorted(set(xs)), xs ints that rise. -/
namespace G81
open PySem PySem.Spec PyProof.Rows L2
theorem met_mem (ns : List Int) (k : Int) : metS (fun i => ns.getD i 0) ns.length k = true ↔ k ∈ ns := by
  unfold metS
  rw [firstMet_any, List.any_eq_true]
  constructor
  · rintro ⟨x, hx, he⟩
    obtain ⟨i, hi, rfl⟩ := List.mem_map.mp hx
    have hi : i < ns.length := by simpa using hi
    have he : ns.getD i 0 = k := by simpa using he
    rw [← he, List.getD_eq_getElem?_getD, List.getElem?_eq_getElem hi]
    exact List.getElem_mem hi
  · intro h
    obtain ⟨i, hi, rfl⟩ := List.getElem_of_mem h
    refine ⟨ns[i], List.mem_map.mpr ⟨i, by simpa using hi, ?_⟩, by simp⟩
    rw [List.getD_eq_getElem?_getD, List.getElem?_eq_getElem hi]; rfl
def rSetI (K : PySem.W.Frag) (w : World) : List V → Hp → VK → Prop := fun xs H Q => ∃ (a : Addr) (ns : List Int), xs = [V.ref a] ∧ SqL K H a (ns.map V.int) ∧ ns.length < 63 ∧
  ∀ (p : Addr) (S : Int → Bool) (n : Nat), (∀ k, S k = true ↔ k ∈ ns) → n < 64 → H p = none → Q (.ref p) (upd H p (SetO w p S n))
theorem cr_setI {X : Cx} (hc : X.calm = true) : CallR X (.type "set") (rSetI X.K X.w) := by
  intro pins s σ H xs us Q I r h
  obtain ⟨a, ns, rfl, hl, h63, q⟩ := h
  rw [Vals.ref1 r]
  obtain ⟨its, rv, pl, hz⟩ := I.list hl
  have ln : its.length = ns.length := by have := rv.length; simpa using this.symm
  refine set_callR (items := its.toArray) (ns := ns) (I.ok.hd hc) pl.isList (by simpa using rv.ints) (by rw [List.size_toArray, ln]; unfold scanBound; omega) fun h' tk R k => ?_
  have sz : its.toArray.size = ns.length := by rw [List.size_toArray, ln]
  rw [sz] at R
  have hn : H s.heap.objs.size = none := I.hok.fresh (Nat.le_refl _)
  refine ⟨.ref s.heap.objs.size, _, I.laid (t' := tk) (fun b o e => k b o (Heap.lt_size e) e) (Nat.le_refl _) (setO_new R), rfl, q _ _ _ (met_mem ns) ?_ hn⟩
  have := firstMet_length_le (fun i => ns.getD i 0) ns.length
  unfold metN; omega
theorem ris_one {a b : List Int} (ha : a.Pairwise (· < ·)) (hb : b.Pairwise (· < ·)) (h : ∀ k, k ∈ a ↔ k ∈ b) : a = b := by
  have na : a.Nodup := ha.imp fun q => Int.ne_of_lt q
  have nb : b.Nodup := hb.imp fun q => Int.ne_of_lt q
  exact srt_one ((List.perm_ext_iff_of_nodup na nb).mpr h) (ha.imp fun q => Int.le_of_lt q) (hb.imp fun q => Int.le_of_lt q)
def dSortSet : List D → R D
  | [.lst l] => match intsD l with
    | some ns => if ns.Pairwise (· < ·) ∧ ns.length < 63 then .ok (.lst l) else .bad
    | none => .bad
  | _ => .bad
section
variable {ι : Type} {X : ι → Cx} {G : Gx} {E : XK} {N : List Str} {k : Nat} {O : List Nat} {p p2 pos pos2 : Pos} {e : Expr} {fa : Ev → R (List D)}
theorem eo_sortSet [Calm G] (C : CxOk X G N k E) (hg : ∀ i, Gl (X i) "sorted") (hm : G.mg "sorted" = none) (hg2 : ∀ i, Gl (X i) "set") (hm2 : G.mg "set" = none) (hv : bootBuiltins "sorted" = some (.builtin "sorted")) (hv2 : bootBuiltins "set" = some (.type "set")) (ha : AM X G E true O [e] fa)
    (he2 : ∀ i, starEach [e] (X i).env = (false, eval e (X i).env) :: starEach [] (X i).env := by intro _; rfl) (hpl2 : ∀ i, (backTo pos2 (starEach [] (X i).env)).any (·.1) = false := by intro _; rfl)
    (he : ∀ i, starEach [.Call (.Name "set" p2) [e] [] pos2] (X i).env = (false, eval (.Call (.Name "set" p2) [e] [] pos2) (X i).env) :: starEach [] (X i).env := by intro _; rfl) (hpl : ∀ i, (backTo pos (starEach [] (X i).env)).any (·.1) = false := by intro _; rfl) :
    EO X G E O (.Call (.Name "sorted" p) [.Call (.Name "set" p2) [e] [] pos2] [] pos) (eCall dSortSet fa) := by
  obtain ⟨t, ht, rd2⟩ := ha.ex
  refine ⟨tCB (rSortedSet G.w) (tCons (tCB (rSetI G.K G.w) t) tNil), fun i => pe_callB (by have q := cr_sortedSet (X := X i) (C.calm i); rw [C.ew i] at q; exact q) (hg i) (by rw [C.emg i]; exact hm) hv
    (pa_cons (pe_callTy (by have q := cr_setI (X := X i) (C.calm i); rw [C.eK i, C.ew i] at q; exact q) (hg2 i) (by rw [C.emg i]; exact hm2) hv2 (ht i) (by decide) (by decide) (he2 i) (hpl2 i)) pa_nil (he i)) (by decide) (by decide) (he i) (hpl i), fun F0 H0 F σ H env Q rl h => rd2 F0 H0 F σ H env _ rl (PostG.bind antiO h fun ds vs F1 H1 e1 r1 h1 => ?_)⟩
  unfold dSortSet at h1
  split at h1
  · rename_i l
    obtain ⟨v, rfl, a, xs, rfl, q1, q2⟩ := repL1 r1
    cases hl : intsD l with
    | none => rw [hl] at h1; exact h1.elim
    | some ns =>
      rw [hl] at h1
      simp only at h1
      split at h1
      · rename_i hr
        have hx := intsD_rep q2 hl
        subst hx
        refine ⟨a, ns, rfl, .inl (.inl (e1.i _ _ q1)), hr.2, fun q S n hS hn hq => ?_⟩
        refine ⟨q, S, n, rfl, upd_same, hn, fun ms u h3 h4 h5 hu => ?_⟩
        have em : ms = ns := ris_one h3 hr.1 fun k => (h4 k).trans (hS k)
        subst em
        have hne : u ≠ q := fun z => by rw [z, upd_same] at hu; cases hu
        have hu1 : H1 u = none := by rwa [upd_ne hne] at hu
        have x1 : Ext F1 H1 F1 (upd H1 q (SetO G.w q S n)) := .own e1.i hq
        have x2 : Ext F1 (upd H1 q (SetO G.w q S n)) F1 (upd (upd H1 q (SetO G.w q S n)) u (.lst (ms.map V.int))) := .own x1.i hu
        exact h1 _ F1 _ (x1.trans x2) ⟨u, _, _, rfl, rfl, hu1, e1.i.free hu1, upd_same, q2⟩
      · exact h1.elim
  · exact h1.elim
end
end G81

/-! try, except, where the suite asks which class the exception is of. -/
namespace G81
open PySem PySem.Spec PyProof.Rows L2
theorem pe_isX {X : Cx} {G : Gx} {a : Addr} {oe : Obj} {pn : List (Addr × Obj)} {cls : Value} {d : Option Addr} {tab : List (Str × Bool)} {T n : Str} {i : Nat} {np p1 p2 pos : Pos} (eK : X.K = G.K) (emg : X.mg = G.mg) (hT : IsT G.K G.mg T tab)
    (hz : Zc cls d oe) (hw : ∃ ws, oe.data = .fields ws) (hg : Gl X "isinstance") (hm : G.mg "isinstance" = none) (hg2 : Gl X T) (hN : X.N[i]? = some n) (hv : Vis X.env.scope n) (hnd : (n == ("__debug__" : Str)) = false) (hnc : (n == ("__classdict__" : Str)) = false) (hdb2 : (T == ("__debug__" : Str)) = false)
    (he : starEach [.Name n np, .Name T p2] X.env = (false, eval (.Name n np) X.env) :: starEach [.Name T p2] X.env) (he2 : starEach [.Name T p2] X.env = (false, eval (.Name T p2) X.env) :: starEach [] X.env) (hpl : (backTo pos (starEach [.Name T p2] X.env)).any (·.1) = false) :
    PE (X.suite a ((a, oe) :: pn)) (.Call (.Name "isinstance" p1) [.Name n np, .Name T p2] [] pos) (fun σ H Q => σ[i]? = some (some (.ref a)) ∧ d = none ∧ ∃ c C b, cls = .ref C ∧ G.mg c = some (.ref C) ∧ (c, b) ∈ tab ∧ Q (.bl b) H) := by
  obtain ⟨v, cv, h1, h2, h3, h4⟩ := hT.ex
  have hT' : PE (X.suite a ((a, oe) :: pn)) (.Name T p2) (tC v) := by
    rcases h3 with z | ⟨z1, z2, z3⟩
    · exact pe_glob hg2 (by show X.mg T = _; rw [emg]; exact z) h2 hdb2
    · exact pe_bltn hg2 (by show X.mg T = _; rw [emg]; exact z1) z2 h2 z3 hdb2
  have hr : CallR (X.suite a ((a, oe) :: pn)) (.builtin "isinstance") (fun xs H Q => d = none ∧ xs = [.ref a, v] ∧ ∃ c C b, cls = .ref C ∧ G.mg c = some (.ref C) ∧ (c, b) ∈ tab ∧ Q (.bl b) H) := by
    intro pins s σ H xs us Q I r h
    obtain ⟨hd, rfl, c, C, b, e0, m1, hb, q⟩ := h
    obtain ⟨C2, m2, hC, e⟩ := h4 c b hb
    rw [m1] at m2
    cases m2
    cases r with
    | cons rx rr =>
      cases rr with
      | cons rt rr =>
        cases rr
        cases rx
        have ec := h1 _ rt
        subst ec
        obtain ⟨hget, _⟩ := I.pin (a, oe) (List.mem_append_left _ List.mem_cons_self)
        have J : PySem.W.InstAt s.heap a oe C none := by
          obtain ⟨oc, od, oda, osl⟩ := oe
          obtain ⟨ws, hw⟩ := hw
          obtain ⟨z1, z2⟩ := hz
          dsimp only at z1 z2 hw
          subst z1 z2 hw
          subst e0 hd
          exact ⟨hget, rfl, rfl, trivial⟩
        rw [← eK] at hC e
        exact PySem.W.kia_one (PySem.W.handS_kitx_exc hC.hg hC.hk hC.hs hC.hd hC.ha hC.hn hC.ht hC.hm) I.kIn J e (fun z => nomatch z) fun tk => ⟨.bl b, H, I.kept (t' := tk) fun _ _ z => z, rfl, q⟩
  have pv : PE (X.suite a ((a, oe) :: pn)) (.Name n np) (tVar i) := pe_var hN hv hnd hnc
  have q := pe_callB (p := p1) (pos := pos) hr hg (by show X.mg "isinstance" = none; rw [emg]; exact hm) (by decide +kernel) (pa_cons pv (pa_cons hT' pa_nil he2) he) (by decide) (by decide) he hpl
  refine ⟨fun pins s σ H Q I h => q.run pins s σ H Q I ?_⟩
  obtain ⟨k1, k2, c, C, b, k3⟩ := h
  exact ⟨_, k1, k2, rfl, c, C, b, k3⟩
end G81
namespace G81
open PySem PySem.Spec PyProof.Rows L2
def sTryI (cs : List Str) (f : Ev → Out) (tab : List (Str × Bool)) : Ev → Out := fun env => match f env with
  | .er c => if c ∈ cs then (match tab.find? (fun p => decide (p.1 = c)) with
      | some p => .rt (.bl p.2)
      | none => .bad) else .bad
  | o => o
section
variable {ι : Type} {X : ι → Cx} {G : Gx} {E : XK} {N : List Str} {k : Nat} {O O' : List Nat} {pos : Pos}
theorem sm_tryI [Calm G] (C : SxOk X G N k E) {body : List Stmt} {f : Ev → Out} {x n T : Str} {i : Nat} {cs : List Str} {tab : List (Str × Bool)} {np np2 ip tp cp rp pos' : Pos} (hsub : ∀ c ∈ cs, SubX G c x) (hx : ∀ j, Gl (X j) x) (hW : ∃ W, G.mg x = some (.ref W))
    (hT : IsT G.K G.mg T tab) (hg : ∀ j, Gl (X j) "isinstance") (hm : G.mg "isinstance" = none) (hg2 : ∀ j, Gl (X j) T) (hi : N[i]? = some n) (hv : ∀ j, Vis (X j).env.scope n) (hln : ∀ j, (X j).env.kindOf n = some .local)
    (hb : ∀ E' : XK, SxOk (trF X E') G N k E' → BM (trF X E') G E' false [] O' body f) (hs : ∀ j, (X j).stack = (X j).env :: (X j).outer := by intro _; rfl) (hf : ∀ j, (X j).env.frame = some (X j).env.locals := by intro _; rfl)
    (he : ∀ j, starEach [.Name n np2, .Name T tp] (X j).env = (false, eval (.Name n np2) (X j).env) :: starEach [.Name T tp] (X j).env := by intro _; rfl) (he2 : ∀ j, starEach [.Name T tp] (X j).env = (false, eval (.Name T tp) (X j).env) :: starEach [] (X j).env := by intro _; rfl) (hpl : ∀ j, (backTo cp (starEach [.Name T tp] (X j).env)).any (·.1) = false := by intro _; rfl)
    (hxd : (x == ("__debug__" : Str)) = false := by decide) (hTd : (T == ("__debug__" : Str)) = false := by decide) (hnd : (n == ("__debug__" : Str)) = false := by decide) (hnc : (n == ("__classdict__" : Str)) = false := by decide) :
    SM X G E false [] O' (.Try body [.ExceptHandler (some (.Name x np)) (some n) [.Return (some (.Call (.Name "isinstance" ip) [.Name n np2, .Name T tp] [] cp)) rp] pos'] [] [] pos) (sTryI cs f tab) := by
  obtain ⟨W, hW⟩ := hW
  let ts : Addr → Value → Option Addr → TS := fun a cls d D σ H => σ[i]? = some (some (.ref a)) ∧ d = none ∧ ∃ c C b, cls = .ref C ∧ G.mg c = some (.ref C) ∧ (c, b) ∈ tab ∧ D.rt (.bl b) H
  let EW : WX → XK := fun W c d H => ∀ σ : L2.St, σ.length = N.length → W c d σ H
  have hbE : ∀ E' : XK, ∃ t : TS, (∀ p : TrI X E', PSs (trF X E' p) body t) ∧ ∀ F0 H0 F σ H env D, Rel G F0 H0 [] F σ H env → SPost G E' false F0 H0 O' F (f env) D → t D σ H := fun E' => (hb E' (C.tr E')).ex
  let tb : WX → TS := fun W => Classical.choose (hbE (EW W))
  refine ⟨fun D σ H => tb (wAs G.K (.ref W) i ts (fun c d _ H => E c d H) D) D σ H, fun j => ?_, fun F0 H0 F σ H env D rl h => ?_⟩
  · have q := ps_try_as (X := X j) (x := x) (n := n) (c := .ref W) (i := i) (body := body) (b₀ := .Return (some (.Call (.Name "isinstance" ip) [.Name n np2, .Name T tp] [] cp)) rp) (suite := []) (np := np) (pos := pos) (pos' := pos') (tb := tb) (ts := ts)
      (Wout := fun c d _ H => E c d H) (hs j) (hf j) (by rw [C.c.eN j]; exact C.c.nd) (by rw [C.c.eN j]; exact hi) (hln j) ⟨hx j, hxd, .inl (by rw [C.c.emg j]; exact hW)⟩ (C.tk j)
      (fun W pn xe tk po => (Classical.choose_spec (hbE (EW W))).1 ⟨j, pn, xe, Takes.len tk (fun c d σ H hl hw => hw σ (by rw [hl]; exact congrArg List.length (C.c.eN j))), po⟩)
      (fun a oe cls d pn hz hfd => by
        have pr := pss_one (ps_ret (pos := rp) (pe_isX (X := X j) (G := G) (a := a) (oe := oe) (pn := pn) (cls := cls) (d := d) (tab := tab) (T := T) (n := n) (i := i) (np := np2) (p1 := ip) (p2 := tp) (pos := cp) (C.c.eK j) (C.c.emg j) hT hz hfd (hg j) hm (hg2 j)
          (by rw [C.c.eN j]; exact hi) (hv j) hnd hnc hTd (he j) (he2 j) (hpl j)))
        exact ⟨fun pins s σ H D I h => pr.run pins s σ H D I h⟩)
    rw [C.c.eK j] at q
    exact q
  · refine (Classical.choose_spec (hbE (EW (wAs G.K (.ref W) i ts (fun c d _ H => E c d H) D)))).2 F0 H0 F σ H env D rl ?_
    unfold sTryI at h
    cases hf : f env with
    | nx e => rw [hf] at h; exact h
    | rt d => rw [hf] at h; exact h
    | bad => rw [hf] at h; exact h.elim
    | er c =>
      rw [hf] at h
      dsimp only at h
      split at h
      · rename_i hc
        obtain ⟨C1, W1, m1, m2, m3⟩ := (hsub c hc).ex
        rw [hW] at m2
        cases m2
        cases ht : tab.find? (fun p => decide (p.1 = c)) with
        | none => rw [ht] at h; exact h.elim
        | some pr =>
          rw [ht] at h
          have hm1 := List.mem_of_find?_eq_some ht
          have hm2 : pr.1 = c := by simpa using List.find?_some ht
          refine ⟨C1, m1, fun H' sH σ' hl => ⟨true, m3, fun _ a na => ⟨?_, rfl, c, C1, pr.2, rfl, m1, by rw [← hm2]; exact hm1, ?_⟩, fun z => by cases z⟩⟩
          · have hlt : i < σ'.length := by rw [hl]; exact (List.getElem?_eq_some_iff.mp hi).1
            rw [List.getElem?_set_self hlt]
          · have e1 : Ext F0 H' F0 H' := .refl (rl.ext.s.trans sH)
            exact h _ F0 H' ⟨e1.f, sH.trans e1.h, e1.i, fun b hb => e1.n b (Same.some sH hb), rl.ext.s⟩ rfl
      · exact h.elim
end
end G81

/-! Sets of texts: set(xs) of a list of texts, sorted(set(xs)). -/
namespace G81
open PySem PySem.Spec PyProof.Rows L2
def keyT (e : Int × Value) : Str := match e.2 with | .str k _ => k | _ => Str.empty
def GoodT (w : World) (e : Int × Value) : Prop := ∃ k tk, e.2 = Value.str k tk ∧ e.1 = hashStr w k
/-- the set of texts at a: S its members, n their number -/
def SetT (w : World) (h : Heap) (a : Addr) (S : Str → Bool) (n : Nat) : Prop :=
  ∃ o es ep t, h.get? a = some o ∧ o.ExactSet ∧ o.data = .set es ep t ∧ (∀ e ∈ es.toList, GoodT w e) ∧ (es.toList.map keyT).Nodup ∧ (∀ k, S k = true ↔ k ∈ es.toList.map keyT) ∧
    es.size < scanBound ∧ t.fits es.size = true ∧ es.size = n ∧ Ris t.place.toList ∧ (w.params.followText "set-order" = true ∨ t.led = true)
section
variable {P : Program} {w : World} {h h' : Heap} {a : Addr} {S : Str → Bool} {n : Nat}
theorem SetT.at (R : SetT w h a S n) (k : ∀ o, h.get? a = some o → h'.get? a = some o) : SetT w h' a S n := by
  obtain ⟨o, es, ep, t, ho, r⟩ := R
  exact ⟨o, es, ep, t, k o ho, r⟩
theorem SetT.lt (R : SetT w h a S n) : a < h.objs.size := by
  obtain ⟨o, es, ep, t, ho, r⟩ := R
  exact Heap.lt_size ho
theorem SetT.congr {S' : Str → Bool} (R : SetT w h a S n) (e : ∀ k, S' k = S k) : SetT w h a S' n := by
  have q : S' = S := funext e
  rw [q]; exact R
theorem strK_is (k : Str) (u : Tok) : (PySem.strKind P w).is k (.str k u) = true := by
  show Value.isStrOf k (.str k u) = true
  simp [Value.isStrOf]
theorem goodT_elems {l : List (Int × Value)} (g : ∀ e ∈ l, GoodT w e) : ElemsOf (PySem.strKind P w) l := fun e he => by
  obtain ⟨k, tk, h1, h2⟩ := g e he
  exact ⟨⟨k, by rw [h1]; exact strK_is k tk, h2⟩, by rw [h1] <;> rfl⟩
theorem goodT_is {e : Int × Value} (g : GoodT w e) (k : Str) : (PySem.strKind P w).is k e.2 = true ↔ keyT e = k := by
  obtain ⟨k0, tk, h1, _⟩ := g
  unfold keyT
  rw [h1]
  constructor
  · intro q; exact (PySem.strKind P w).inj (.str k0 tk) k0 k (strK_is k0 tk) q
  · intro q; rw [← q]; exact strK_is k0 tk
theorem goodT_mem {l : List (Int × Value)} (g : ∀ e ∈ l, GoodT w e) (k : Str) : k ∈ l.map keyT ↔ ∃ e ∈ l, (PySem.strKind P w).is k e.2 = true := by
  rw [List.mem_map]
  constructor
  · rintro ⟨e, he, q⟩
    exact ⟨e, he, (goodT_is (g e he) k).2 q⟩
  · rintro ⟨e, he, q⟩
    exact ⟨e, he, (goodT_is (g e he) k).1 q⟩
end
section
variable {P : Program} {w : World} {A : Around} {E : Value → Shared → Prop} {s : Shared} {a : Addr} {S : Str → Bool} {n : Nat}
theorem setT_add_tail {g : Bool → Sem Unit} (hg : ∀ (b : Bool) (s₁ : Shared) (Q' : Unit → Shared → Prop), Q' () s₁ → wpAny (model P w) A (g b) Q' E s₁)
    {o : Obj} {es : Array (Int × Value)} {ep : Nat} {t : SetTable} (ho : s.heap.get? a = some o) (hex : o.ExactSet) (hd : o.data = .set es ep t)
    {es1 : Array (Int × Value)} {t2 : SetTable} {S' : Str → Bool} (g1 : ∀ e ∈ es1.toList, GoodT w e) (nd1 : (es1.toList.map keyT).Nodup) (m1 : ∀ k, S' k = true ↔ k ∈ es1.toList.map keyT)
    (hb1 : es1.size < scanBound) (hf2 : t2.fits es1.size = true) (hr : Ris t2.place.toList) (hl : w.params.followText "set-order" = true ∨ t2.led = true) {wasDummy : Bool} {R : Option Bool → Shared → Prop}
    (hR : ∀ h', Heap.SameBut a s.heap h' → SetT w h' a S' es1.size → R (some true) { s with heap := h' }) :
    wpAny (model P w) A (do
        storeSet a es1 t2
        if (!wasDummy && t2.tooFull) = true then do
            g (relayAll t2 es1 (SetTable.grown es1.size)).2.2
            storeSet a (relayAll t2 es1 (SetTable.grown es1.size)).1 (relayAll t2 es1 (SetTable.grown es1.size)).2.1
            pure (some true)
          else pure (some true)) R E s := by
  refine wpAny_bind (wpAny_storeSet_of ho hd ?_ (fits_of_scanBound hb1))
  have ho1 := store_at (es' := es1) (t' := t2) ho hd
  have sb1 := Heap.SameBut.update s.heap a (Obj.putSet es1 t2)
  split
  · have pm := relayAll_perm t2 es1 (SetTable.grown es1.size)
    have hf3 := relayAll_fits t2 es1 (SetTable.grown es1.size)
    have hr3 := relayAll_ris t2 es1 (SetTable.grown es1.size)
    have hl3 := relayAll_led t2 es1 (SetTable.grown es1.size)
    generalize relayAll t2 es1 (SetTable.grown es1.size) = Z at pm hf3 hr3 hl3 ⊢
    obtain ⟨es2, t3, gave⟩ := Z
    dsimp only at pm hf3 hr3 hl3 ⊢
    have hsz : es2.size = es1.size := by rw [← Array.length_toList, pm.length_eq, Array.length_toList]
    have hb2 : es2.size < scanBound := by rw [hsz]; exact hb1
    refine wpAny_bind (hg _ _ _ ?_)
    refine wpAny_bind (wpAny_storeSet_of ho1 rfl ?_ (fits_of_scanBound hb2))
    have ho2 := store_at (es' := es2) (t' := t3) ho1 rfl
    refine wpAny_pure (hR _ (sb1.trans (Heap.SameBut.update _ a _)) ?_)
    exact ⟨_, es2, _, t3, ho2, hex, rfl, fun e he => g1 e (pm.mem_iff.mp he), (pm.map keyT).nodup_iff.mpr nd1, fun k => (m1 k).trans (pm.map keyT).mem_iff.symm, hb2, hf3, hsz, hr3,
      hl.imp id fun z => by rw [hl3]; exact z⟩
  · exact wpAny_pure (hR _ sb1 ⟨_, es1, _, t2, ho1, hex, rfl, g1, nd1, m1, hb1, hf2, rfl, hr, hl⟩)
theorem setT_add_hashed {k : Str} {tk : Tok} {Q : Bool → Shared → Prop} (R : SetT w s.heap a S n) (room : n + 1 < scanBound)
    (hQ : ∀ h', Heap.SameBut a s.heap h' → SetT w h' a (fun j => S j || decide (j = k)) (if S k = true then n else n + 1) → Q (!S k) { s with heap := h' }) :
    wpAny (model P w) A (setAddHashed a (.str k tk) ((PySem.strKind P w).hash k)) Q E s := by
  obtain ⟨o, es, ep, t, ho, hex, hd, g, nd, hm, hb, hf, hn, hr, hl⟩ := R
  have hkey : (PySem.strKind P w).is k (.str k tk) = true := strK_is k tk
  have hsc : (Value.str k tk).scannable = true := rfl
  have hel : ElemsOf (PySem.strKind P w) es.toList := goodT_elems g
  unfold setAddHashed setAddHashedIn
  refine wpAny_holding (wpAny_bind (wpAny_setState_of ho hd hf ?_))
  dsimp only
  rw [byScan_of hsc hb hel]
  simp only [↓reduceIte]
  unfold setAddByScan
  refine wpAny_bind ?_
  refine wpAny_bind (wpAny_rule ?_)
  refine wpAny_bind (wpAny_setScan_of hkey ho hd hf hel ?_)
  cases hfi : List.findIdx? (fun e => (PySem.strKind P w).is k e.2) es.toList with
  | some j =>
    dsimp only
    obtain ⟨hj, pj, _⟩ := List.findIdx?_eq_some_iff_getElem.mp hfi
    have hSk : S k = true := (hm k).2 ((goodT_mem (P := P) (w := w) g k).2 ⟨es.toList[j], List.getElem_mem hj, pj⟩)
    refine wpAny_pure (wpAny_pure ?_)
    have q := hQ s.heap (Heap.SameBut.refl a s.heap) ⟨o, es, ep, t, ho, hex, hd, g, nd, fun i => by
      rw [Bool.or_eq_true, decide_eq_true_eq, ← hm i]
      exact ⟨fun z => z.elim id (fun e => e ▸ hSk), .inl⟩, hb, hf, by rw [if_pos hSk]; exact hn, hr, hl⟩
    rw [hSk] at q
    exact q
  | none =>
    dsimp only
    have hnk : k ∉ es.toList.map keyT := fun z => by
      obtain ⟨e, he, q⟩ := (goodT_mem (P := P) (w := w) g k).1 z
      have c := List.findIdx?_eq_none_iff.mp hfi e he
      rw [q] at c
      cases c
    have hSk : S k = false := by
      cases q : S k with
      | false => rfl
      | true => exact absurd ((hm k).1 q) hnk
    have hgw : ∀ (b : Bool) {s₁ : Shared} {Q' : Unit → Shared → Prop}, Q' () s₁ → wpAny (model P w) A (match b with | true => rule "set.scan.the-table-gave-way" | false => pure ()) Q' E s₁ :=
      fun b s₁ Q' q => by cases b <;> first | exact wpAny_pure q | exact wpAny_rule q
    have pm := layNew_perm t es ((PySem.strKind P w).hash k) (.str k tk)
    have hf1 := layNew_fits t es ((PySem.strKind P w).hash k) (.str k tk)
    have hr1 := layNew_ris t es ((PySem.strKind P w).hash k) (.str k tk) hr
    have hl1 := layNew_led t es ((PySem.strKind P w).hash k) (.str k tk)
    generalize layNew t es ((PySem.strKind P w).hash k) (.str k tk) = Z at pm hf1 hr1 hl1 ⊢
    obtain ⟨es1, t1, wasDummy, gave⟩ := Z
    dsimp only at pm hf1 hr1 hl1 ⊢
    rw [Array.toList_push] at pm
    have pc : es1.toList.Perm (((PySem.strKind P w).hash k, Value.str k tk) :: es.toList) := pm.trans (List.perm_append_singleton _ _)
    have pk : (es1.toList.map keyT).Perm (k :: es.toList.map keyT) := pc.map keyT
    have g1 : ∀ e ∈ es1.toList, GoodT w e := fun e he => by
      rcases List.mem_cons.mp (pc.mem_iff.mp he) with z | z
      · rw [z]; exact ⟨k, tk, rfl, rfl⟩
      · exact g e z
    have nd1 : (es1.toList.map keyT).Nodup := pk.nodup_iff.mpr (List.nodup_cons.mpr ⟨hnk, nd⟩)
    have m1 : ∀ i, (S i || decide (i = k)) = true ↔ i ∈ es1.toList.map keyT := fun i => by
      rw [Bool.or_eq_true, decide_eq_true_eq, hm i, pk.mem_iff, List.mem_cons]
      exact Or.comm
    have hsz : es1.size = n + 1 := by rw [← Array.length_toList, pc.length_eq, List.length_cons, Array.length_toList, hn]
    have hb1 : es1.size < scanBound := by rw [hsz]; exact room
    have hled : w.params.followText "set-order" = true ∨ t1.led = true := hl.imp id fun z => by rw [hl1]; exact z
    have fin : ∀ h', Heap.SameBut a s.heap h' → SetT w h' a (fun j => S j || decide (j = k)) es1.size → Q true { s with heap := h' } := fun h' sb r => by
      have q := hQ h' sb
      rw [hSk] at q
      rw [hsz] at r
      exact q r
    refine wpAny_bind (hgw _ ?_)
    split
    · refine wpAny_bind ?_
      rw [hashByValue_scannable 8 hsc]
      refine wpAny_pure ?_
      refine setT_add_tail ?_ ho hex hd g1 nd1 m1 hb1 ?_ ?_ ?_ ?_
      · intro b s₁ Q' q; cases b <;> first | exact wpAny_pure q | exact wpAny_rule q
      · first | (split <;> first | exact hf1 | exact SetTable.fits_plain_off hf1) | exact hf1
      · first | (split <;> exact hr1) | exact hr1
      · first | (split <;> exact hled) | exact hled
      · intro h' sb r; dsimp only; exact wpAny_pure (fin h' sb r)
    · refine wpAny_bind (wpAny_pure ?_)
      simp only [↓reduceIte]
      refine setT_add_tail ?_ ho hex hd g1 nd1 m1 hb1 hf1 hr1 hled ?_
      · intro b s₁ Q' q; cases b <;> first | exact wpAny_pure q | exact wpAny_rule q
      · intro h' sb r; dsimp only; exact wpAny_pure (fin h' sb r)
theorem setT_fresh {h : Heap} (w : World) : SetT w (h.push (set0 w)) h.objs.size (fun _ => false) 0 :=
  ⟨_, #[], 0, _, Heap.get?_push_size _ rfl, ⟨rfl, rfl, rfl⟩, rfl, (fun e he => by simp at he), (by simp), (fun k => by simp), (by decide), (by rfl), rfl, by (first | exact List.Pairwise.nil | simp [Ris]), by
    cases q : w.params.followText "set-order" with
    | true => exact .inl rfl
    | false => exact .inr (by show (SetTable.fresh 0 0 (!false)).led = true; rfl)⟩
/-- what is met so far: the members, and how many -/
def metL (xs : List Str) (i : Nat) : List Str := (xs.take i).foldl (fun acc k => if acc.contains k then acc else k :: acc) []
def tS (l : List Str) : Str → Bool := fun k => decide (k ∈ l)
def stepT (l : List Str) (k : Str) : List Str := if k ∈ l then l else k :: l
def runT (xs : List Str) (i : Nat) : List Str := (xs.take i).foldl stepT []
theorem runT_succ (xs : List Str) (i : Nat) (k : Str) (h : xs[i]? = some k) : runT xs (i + 1) = stepT (runT xs i) k := by
  obtain ⟨hi, rfl⟩ := List.getElem?_eq_some_iff.mp h
  unfold runT
  rw [List.take_succ_eq_append_getElem hi, List.foldl_append]; rfl
theorem runT_len (xs : List Str) : ∀ i, (runT xs i).length ≤ i
  | 0 => by simp [runT]
  | i + 1 => by
    cases h : xs[i]? with
    | some k =>
      rw [runT_succ xs i k h]
      have := runT_len xs i
      unfold stepT
      split <;> simp <;> omega
    | none =>
      have hle : xs.length ≤ i := by simpa using h
      have e : runT xs (i + 1) = runT xs i := by unfold runT; rw [List.take_of_length_le (by omega), List.take_of_length_le hle]
      rw [e]; have := runT_len xs i; omega
theorem mem_foldT (k : Str) : ∀ (xs acc : List Str), k ∈ xs.foldl stepT acc ↔ k ∈ acc ∨ k ∈ xs
  | [], acc => by simp
  | x :: xs, acc => by
    rw [List.foldl_cons, mem_foldT k xs]
    unfold stepT
    split
    · rename_i h
      constructor
      · rintro (q | q)
        · exact .inl q
        · exact .inr (List.mem_cons_of_mem _ q)
      · rintro (q | q)
        · exact .inl q
        · rcases List.mem_cons.mp q with q | q
          · exact .inl (q ▸ h)
          · exact .inr q
    · simp only [List.mem_cons]
      constructor
      · rintro ((q | q) | q)
        · exact .inr (.inl q)
        · exact .inl q
        · exact .inr (.inr q)
      · rintro (q | q | q)
        · exact .inl (.inr q)
        · exact .inl (.inl q)
        · exact .inr q
theorem upd_loopT {R : Result → Shared → Prop} {I S : Addr} {fp wr : List Addr} {T : Array GenState → Array GenState → Prop} {n : Nat} {Pp : Nat → Value → Prop} {St : Nat → Shared → Prop}
    (W : WalksS P w A.in1 I fp wr T n Pp St) (hS : S ∉ fp) (xs : List Str) (hv : ∀ i v, Pp i v → ∃ k t, xs[i]? = some k ∧ v = .str k t) (hn : n + 1 < scanBound) :
    ∀ (d i : Nat) (s : Shared), i + d = n → St i s → SetT w s.heap S (tS (runT xs i)) (runT xs i).length →
      (∀ s', Moved (S :: wr) T s s' → SetT w s'.heap S (tS (runT xs n)) (runT xs n).length → R (.ok (.ret .none)) s') →
      codeAny (model P w) A (.builtin "set.update.loop" ⟨[.ref S, .ref I], []⟩) R s := by
  have out : S ∉ wr := fun q => hS (W.sub _ q)
  have up : ∀ c ∈ wr, c ∈ S :: wr := fun c q => List.mem_cons_of_mem _ q
  intro d
  induction d with
  | zero =>
    intro i s e st r fin
    obtain rfl : i = n := by omega
    refine codeAny_builtin F.entry_set_update_loop ?_
    rw [Around.under_plainId F.plain_set_update_loop _]
    show wpAny _ A.in1 (pyNext (.ref I) >>= _) _ _ s
    refine wpAny_bind (W.done s _ _ st fun s' mv => ?_)
    show wpAny _ A.in1 (ret Value.none) _ _ s'
    exact wpAny_pure (fin s' (mv.mono up) (r.at fun o q => mv.heap S _ out q))
  | succ d ih =>
    intro i s e st r fin
    refine codeAny_builtin F.entry_set_update_loop ?_
    rw [Around.under_plainId F.plain_set_update_loop _]
    show wpAny _ A.in1 (pyNext (.ref I) >>= _) _ _ s
    refine wpAny_bind (W.item i s _ _ (by omega) st fun v s1 pv st1 mv => ?_)
    obtain ⟨k, t, hk, rfl⟩ := hv i v pv
    have r1 : SetT w s1.heap S (tS (runT xs i)) (runT xs i).length := r.at fun o q => mv.heap S _ out q
    show wpAny _ A.in1 (holding [Value.str k t] (setAdd S (.str k t)) >>= _) _ _ s1
    refine wpAny_bind (wpAny_holding ?_)
    unfold setAdd
    refine wpAny_holding (wpAny_bind ((PySem.strKind P w).pyHash (k := k) (strK_is k t) ?_))
    have room : (runT xs i).length + 1 < scanBound := by have := runT_len xs i; omega
    refine setT_add_hashed (s := { s1 with toks := s1.toks + 1 }) r1 room fun h2 sb r2 => ?_
    have r3 : SetT w h2 S (tS (runT xs (i + 1))) (runT xs (i + 1)).length := by
      rw [runT_succ xs i k hk]
      have e2 : (stepT (runT xs i) k).length = if tS (runT xs i) k = true then (runT xs i).length else (runT xs i).length + 1 := by
        unfold stepT tS
        by_cases q : k ∈ runT xs i
        · rw [if_pos q, if_pos (by simpa using q)]
        · rw [if_neg q, if_neg (by simpa using q), List.length_cons]
      rw [e2]
      refine r2.congr fun j => ?_
      unfold tS stepT
      by_cases q : k ∈ runT xs i
      · rw [if_pos q]
        by_cases z : j = k
        · subst z; simp [q]
        · simp [z]
      · rw [if_neg q]
        by_cases z : j = k
        · subst z; simp
        · simp [z]
    refine wpAny_pure ⟨plainId_quiet F.plain_set_update_loop _, ih (i + 1) _ (by omega) (W.frame _ s1 _ _ st1 (Nat.le_succ _) fun c hc o q => ?_) r3 fun s2 mv2 r4 => ?_⟩
    · have hne : c ≠ S := fun z => hS (z ▸ hc)
      rw [sb.2 c hne]; exact q
    · refine fin s2 (Moved.trans W.gtrans ((mv.mono up).then_heap (Nat.le_succ _) fun c o hc q => ?_) mv2) r4
      have hne : c ≠ S := fun z => hc (by rw [z]; exact List.mem_cons_self)
      rw [sb.2 c hne]; exact q
set_option maxHeartbeats 3200000 in
theorem set_callT {l : Addr} {items : Array Value} {xs : List Str} {Q : Value → Shared → Prop} (hh : A.handled = none) (hl : s.heap.IsList l items) (hi : StrsAre items.toList xs) (hb : items.size + 1 < scanBound)
    (h : ∀ (h' : Heap) (tk : Nat), SetT w h' s.heap.objs.size (tS (runT xs items.size)) (runT xs items.size).length →
      (∀ b o, b < s.heap.objs.size → s.heap.get? b = some o → h'.get? b = some o) → Q (.ref s.heap.objs.size) { s with heap := h', toks := tk }) :
    wpAny (model P w) A (call (.type "set") [.ref l]) Q E s := by
  obtain ⟨c, tl, m0⟩ := F.called_set.mro
  have m1 := F.called_set.made
  have m2 := F.called_set.sub
  refine wpAny_call (codeAny_of_tree ?_)
  show wpAny _ _ (callAny (.type "set") _) _ _ _
  refine wpAny_pure ⟨Code.quiet_builtin _ (by decide +kernel), codeAny_builtin F.entry_type_call ?_⟩
  rw [Around.under_plain (weight_type_call_type "set" [.ref l] []) rfl]
  have m3 := F.called_set.notType
  have m4 := F.called_set.canCreate
  have m5 := F.typeCall_set_1 (.ref l)
  repeat (any_goals (first | assumption | wp_step))
  refine codeAny_mono (set_newR (.ref l) (E := E) (Q := fun obj s₁ => obj = .ref s.heap.objs.size ∧ s₁ = { s with heap := s.heap.push (set0 w) }) ⟨rfl, rfl⟩) fun r s₁ hr => ?_
  cases r with
  | error e => exact hr
  | ok fl =>
    cases fl with
    | ret obj =>
      obtain ⟨rfl, rfl⟩ := hr
      have at0 : (s.heap.push (set0 w)).get? s.heap.objs.size = some (set0 w) := Heap.get?_push_size _ rfl
      have ty : Shared.TypeIs { s with heap := s.heap.push (set0 w) } (.ref s.heap.objs.size) "set" := ⟨_, at0, rfl⟩
      have m6 := F.called_set.init.lookup
      have m7 := F.called_set.init.bind (.ref s.heap.objs.size)
      repeat (any_goals (first | assumption | wp_step))
      refine codeAny_mono (codeAny_call_builtin (R := wants (fun r s₂ => r = .none ∧ ∃ h' tk, s₂ = { s with heap := h', toks := tk } ∧ SetT w h' s.heap.objs.size (tS (runT xs items.size)) (runT xs items.size).length ∧
          (∀ b o, b < s.heap.objs.size → s.heap.get? b = some o → h'.get? b = some o)) E) F.called_set.init.plain F.entry_set_init (check_set_init_1 ty ?_)) fun r₂ s₂ hr₂ => ?_
      · obtain ⟨ol, hol, hcl, nl, hdl⟩ := hl
        obtain ⟨oc, od, oda, osl⟩ := ol
        simp only at hcl hdl
        subst hcl; subst hdl
        have hol' : (s.heap.push (set0 w)).get? l = some { cls := .type "list", dict := od, data := .seq items nl, slots := osl } := Heap.get?_push_of_some _ hol
        have n1 := F.sub_list_set
        have n2 := F.sub_list_frozenset
        have n3 : (Value.type "list" == Value.type "dict") = false := by decide
        have hl1 : (s.heap.push (set0 w)).IsList l items := ⟨_, hol', rfl, nl, rfl⟩
        unfold Builtin.«set.__init__» noKeywords Builtin.Frozenset.updateFrom
        generalize hPI : pyIter = PI
        wp_walk
        subst hPI
        refine wpAny_pyIter_list hl1 (wpAny_bind (wpAny_runValue ?_))
        have hlS : l < s.heap.objs.size := Heap.lt_size hol
        have hh3 : A.in1.in1.in1.handled = none := by simp [hh]
        have hsz : (s.heap.push (set0 w)).objs.size = s.heap.objs.size + 1 := Heap.size_push ..
        have hne : l ≠ (s.heap.push (set0 w)).objs.size := by rw [hsz]; exact Nat.ne_of_lt (Nat.lt_succ_of_lt hlS)
        have hSf : s.heap.objs.size ∉ [(s.heap.push (set0 w)).objs.size, l] := by
          rw [hsz]; simp only [List.mem_cons, List.not_mem_nil, or_false, not_or]
          exact ⟨Nat.ne_of_lt (Nat.lt_succ_self _), Nat.ne_of_gt hlS⟩
        refine upd_loopT ((Walks.list hh3 _ l hne items).toS) hSf xs (fun i v hv => ?_) hb items.size 0 _ (by omega)
          ⟨⟨_, Heap.get?_push_size _ rfl, rfl, rfl⟩, (hl1.push _)⟩ ?_ ?_
        · obtain ⟨y, t, e1, e2⟩ := StrsAre.item hi i v (by rw [Array.getElem?_toList]; exact hv)
          exact ⟨y, t, e2, e1⟩
        · exact ((setT_fresh (h := s.heap) w).at fun o q => Heap.get?_push_of_some _ q).congr fun k => by simp [tS, runT]
        · intro s' mv r
          obtain ⟨h', g', d', tk', os'⟩ := s'
          have eg : g' = s.gens := mv.gens
          have ed : d' = s.drawn := mv.drawn
          have eo : os' = s.os := mv.os
          subst eg; subst ed; subst eo
          show wpAny _ _ _ _ _ _
          refine wpAny_pure ?_
          show wpAny _ _ (ret Value.none) _ _ _
          refine wpAny_pure ⟨rfl, h', tk', rfl, r, fun b o hb e => ?_⟩
          have b1 : b ≠ s.heap.objs.size := Nat.ne_of_lt hb
          have b2 : b ≠ (s.heap.push (set0 w)).objs.size := by rw [hsz]; exact Nat.ne_of_lt (Nat.lt_succ_of_lt hb)
          exact mv.heap b o (by simp only [List.mem_cons, List.not_mem_nil, or_false, not_or]; exact ⟨b1, b2⟩) (Heap.get?_push_of_some _ (Heap.get?_push_of_some _ e))
      · cases r₂ with
        | error e => exact hr₂
        | ok fl₂ =>
          cases fl₂ with
          | ret r =>
            obtain ⟨rfl, h', tk, rfl, hS', hk'⟩ := hr₂
            repeat (any_goals (first | assumption | wp_step))
            exact h _ _ hS' hk'
          | _ => exact hr₂.elim
    | _ => exact hr.elim
/-- sorted of a set of texts -/
theorem sorted_setT {Q : Value → Shared → Prop} (R : SetT w s.heap a S n) (hh : A.handled = none) (h64 : n < 64)
    (hQ : ∀ s' p (out : Array Value) (c : Nat) (ns : List Str), (∀ b o, s.heap.get? b = some o → s'.heap.get? b = some o) → s'.gens = s.gens → s'.os = s.os → s.heap.objs.size ≤ p →
      s'.heap.get? p = some (seqObj "list" out c) → StrsAre out.toList ns → sortedS ns = true → ns.Nodup → (∀ k, k ∈ ns ↔ S k = true) → ns.length = n → Q (.ref p) s') :
    wpAny (model P w) A (call (.builtin "sorted") [.ref a]) Q E s := by
  obtain ⟨o, es, ep, t, ho, hex, hd, g, nd, hm, hb, hf, hn, hr, hl⟩ := R
  refine Calls.call_function_entry kind_sorted plain_sorted entry_sorted (args_sorted1 _) ?_
  unfold Builtin.«sorted»
  refine wpAny_bind (m := checkCount "sorted" 1 1 _) (wpAny_pure ?_)
  refine wpAny_bind (collect_set (A := A.in1) hh ⟨o, ho, hex.1, hd⟩ hf hb hr hl fun s1 vs k1 hz g1 o1 pm => ?_)
  have hvl : vs.length = n := by rw [pm.length_eq, List.length_map, Array.length_toList]; exact hn
  have hall : ∀ v, v ∈ vs → ∃ x t, v = Value.str x t := fun v hv => by
    obtain ⟨e, he, q⟩ := List.mem_map.mp (pm.mem_iff.mp hv)
    obtain ⟨k, tk, h1, _⟩ := g e he
    exact ⟨k, tk, by rw [← q]; exact h1⟩
  have hI : StrsAre vs (vs.map PyProof.Rows.strOf) := strsAre_map vs hall
  have pk : (vs.map PyProof.Rows.strOf).Perm (es.toList.map keyT) := by
    have q := pm.map PyProof.Rows.strOf
    rw [List.map_map] at q
    refine q.trans (.of_eq (List.map_congr_left fun e he => ?_))
    obtain ⟨k, tk, h1, _⟩ := g e he
    show PyProof.Rows.strOf e.2 = keyT e
    unfold keyT
    rw [h1]; rfl
  refine wpAny_bind (wpAny_newList ?_ (by rw [hvl, sizeLine_eq]; omega))
  have hoL : (s1.heap.push (seqObj "list" vs.toArray 0)).get? s1.heap.objs.size = some (seqObj "list" vs.toArray 0) := Heap.get?_push_size _ rfl
  refine wpAny_bind (wpAny_holding (wpAny_call_entry slot_list_sort ⟨_, hoL, rfl⟩ entry_list_sort (list_sort_treeK strKind_oneLt hoL hI.keysOf (fun v₁ v₂ rest e => keyKind_strs (by rw [← e]; exact hI)) (by rw [hvl]; exact h64) fun st' hp hs => ?_) (args_list_sort _)))
  obtain ⟨ns', a1, a2, a3⟩ := sorted_out_str hI hp hs
  refine ⟨_, rfl, ?_⟩
  generalize ho2 : ((arrOf st').map (·.2)) = out at a1
  obtain ⟨c, hc⟩ := sortedHeap_at (vs := vs) (out := out) hoL
  have pn : ns'.Perm (es.toList.map keyT) := a2.trans pk
  refine wpAny_pure ⟨_, rfl, hQ _ s1.heap.objs.size out c ns' (fun b u e => ?_) g1 o1 hz hc a1 a3 (pn.nodup_iff.mpr nd) (fun k => by rw [pn.mem_iff, ← hm k]) ?_⟩
  · have q := k1 b u e
    have hlt := Heap.lt_size q
    show (sortedHeap (s1.heap.push (seqObj "list" vs.toArray 0)) s1.heap.objs.size vs out).get? b = some u
    rw [sortedHeap_old (Nat.ne_of_lt hlt) (by rw [size_push']; exact Nat.lt_succ_of_lt hlt)]
    exact Heap.get?_push_of_some _ q
  · rw [pn.length_eq, List.length_map, Array.length_toList]; exact hn
end
end G81

/-! sorted of texts, sorted(set(xs)) of texts. -/
namespace G81
open PySem PySem.Spec PyProof.Rows L2
def cpL (s : List Char) : List Nat := s.map Char.toNat
/-- the one text is not behind the other -/
def leT (a b : List Char) : Bool := !decide (cpL b < cpL a)
def srtT (l : List (List Char)) : List (List Char) := l.mergeSort leT
theorem cpL_inj {a b : List Char} (h : cpL a = cpL b) : a = b := by
  refine mkS_injK ?_
  unfold mkS
  rw [show a.map Char.toNat = b.map Char.toNat from h]
theorem leT_trans {a b c : List Char} (h1 : leT a b = true) (h2 : leT b c = true) : leT a c = true := by
  simp only [leT, Bool.not_eq_true', decide_eq_false_iff_not] at *
  intro q
  by_cases hcb : cpL c < cpL b
  · exact h2 hcb
  · exact h1 (List.lt_of_le_of_lt (List.not_lt.mp hcb) q)
theorem leT_total (a b : List Char) : (leT a b || leT b a) = true := by
  simp only [leT, Bool.or_eq_true, Bool.not_eq_true', decide_eq_false_iff_not]
  by_cases h : cpL b < cpL a
  · exact .inr fun q => List.lt_irrefl _ (List.lt_trans h q)
  · exact .inl h
theorem leT_anti {a b : List Char} (h1 : leT a b = true) (h2 : leT b a = true) : a = b := by
  simp only [leT, Bool.not_eq_true', decide_eq_false_iff_not] at *
  exact cpL_inj (List.le_antisymm (List.not_lt.mp h1) (List.not_lt.mp h2))
theorem srtT_one {a b : List (List Char)} (h : a.Perm b) (h1 : a.Pairwise fun x y => leT x y = true) (h2 : b.Pairwise fun x y => leT x y = true) : a = b :=
  h.eq_of_pairwise (fun x y _ _ p q => leT_anti p q) h1 h2
theorem srtT_pw (l : List (List Char)) : (srtT l).Pairwise fun x y => leT x y = true :=
  List.pairwise_mergeSort (le := leT) (fun a b c p q => leT_trans p q) leT_total l
theorem srtT_perm (l : List (List Char)) : (srtT l).Perm l := List.mergeSort_perm l _
theorem srtT_eq {a l : List (List Char)} (hp : a.Perm l) (hs : a.Pairwise fun x y => leT x y = true) : a = srtT l := srtT_one (hp.trans (srtT_perm l).symm) hs (srtT_pw l)
theorem mkS_cps (s : List Char) : (mkS s).cps.toList = cpL s := by simp [mkS, cpL]
theorem rising_pw : ∀ (r : List (List Char)) (p : List Char), risingS (mkS p) (r.map mkS) = true → (∀ x ∈ r, leT p x = true) ∧ r.Pairwise fun x y => leT x y = true
  | [], _, _ => ⟨fun x h => by simp at h, .nil⟩
  | x :: r, p, h => by
    simp only [List.map_cons, risingS, Bool.and_eq_true, mkS_cps, ltCps_eq] at h
    obtain ⟨h1, h2⟩ := rising_pw r x h.2
    refine ⟨fun y hy => ?_, List.pairwise_cons.mpr ⟨h1, h2⟩⟩
    rcases List.mem_cons.mp hy with q | q
    · rw [q]; exact h.1
    · exact leT_trans h.1 (h1 y q)
theorem sorted_pw : ∀ (l : List (List Char)), sortedS (l.map mkS) = true → l.Pairwise fun x y => leT x y = true
  | [], _ => .nil
  | x :: r, h => by
    obtain ⟨h1, h2⟩ := rising_pw r x h
    exact List.pairwise_cons.mpr ⟨h1, h2⟩
/-- what is a permutation of texts' signs is of texts -/
theorem perm_mk {ys : List Str} {ns : List (List Char)} (h : ys.Perm (ns.map mkS)) : ∃ ms : List (List Char), ys = ms.map mkS ∧ ms.Perm ns := by
  refine ⟨ys.map fun y => (y.cps.toList.map Char.ofNat), ?_, ?_⟩
  · rw [List.map_map]
    have : ∀ y ∈ ys, (mkS ∘ fun y : Str => y.cps.toList.map Char.ofNat) y = y := fun y hy => by
      obtain ⟨s, _, rfl⟩ := List.mem_map.mp (h.mem_iff.mp hy)
      show mkS ((mkS s).cps.toList.map Char.ofNat) = mkS s
      rw [mkS_cps]
      unfold cpL
      rw [List.map_map]
      congr 1
      have : (Char.ofNat ∘ Char.toNat) = id := funext fun c => Char.ofNat_toNat c
      rw [this, List.map_id]
    rw [List.map_congr_left this, List.map_id']
  · have q := h.map fun y : Str => (y.cps.toList.map Char.ofNat)
    rw [List.map_map] at q
    refine q.trans (.of_eq ?_)
    have : ((fun y : Str => y.cps.toList.map Char.ofNat) ∘ mkS) = id := funext fun s => by
      show (mkS s).cps.toList.map Char.ofNat = s
      rw [mkS_cps]
      unfold cpL
      rw [List.map_map]
      have : (Char.ofNat ∘ Char.toNat) = id := funext fun c => Char.ofNat_toNat c
      rw [this, List.map_id]
    rw [this, List.map_id]
theorem repL_strs {G : Gx} {F : Hp} : ∀ z : List (List Char), RepL G F (z.map D.str) ((z.map mkS).map V.str)
  | [] => rfl
  | c :: z => ⟨_, _, rfl, rfl, repL_strs z⟩
theorem repL_ints {G : Gx} {F : Hp} : ∀ z : List Int, RepL G F (z.map D.int) (z.map V.int)
  | [] => rfl
  | c :: z => ⟨_, _, rfl, rfl, repL_ints z⟩
def dSorted2 : List D → R D
  | [.lst l] => match intsD l with
    | some ns => .ok (.lst ((srtI ns).map D.int))
    | none => match strsOf l with
      | some ss => if ss.length < 64 then .ok (.lst ((srtT ss).map D.str)) else .bad
      | none => .bad
  | _ => .bad
theorem CallR.or' {Y : Cx} {f : Value} {r r' : List V → Hp → VK → Prop} (h : CallR Y f r) (h' : CallR Y f r') : CallR Y f (fun xs H Q => r xs H Q ∨ r' xs H Q) := by
  intro pins s σ H xs us Q I rv q
  rcases q with q | q
  · exact h pins s σ H xs us Q I rv q
  · exact h' pins s σ H xs us Q I rv q
section
variable {ι : Type} {X : ι → Cx} {G : Gx} {E : XK} {N : List Str} {k : Nat} {O : List Nat} {m m' : Bool} {pos p apos p2 pos2 : Pos} {a e : Expr} {fe : Ev → R D} {fa : Ev → R (List D)}
theorem ca_sorted2 (C : CxOk X G N k E) : CaO X G E (.builtin "sorted") dSorted2 := by
  refine ⟨_, fun i => by have q := CallR.or' (cr_sortedI (X := X i)) (cr_sortedS (X := X i)); rw [C.eK i] at q; exact q, fun F H vs ds Q s rv h => ?_⟩
  unfold dSorted2 at h
  split at h
  · rename_i l
    obtain ⟨v, rfl, a, xs, rfl, q1, q2⟩ := repL1 rv
    cases hl : intsD l with
    | some ns =>
      rw [hl] at h
      have hx := intsD_rep q2 hl
      subst hx
      refine .inl ⟨a, ns, rfl, .inl (.inl (s _ _ q1)), fun ns' p h1 h2 hp => ?_⟩
      rw [srt_eq h1 h2]
      exact h _ F _ (.own s hp) ⟨p, _, _, rfl, rfl, hp, s.free hp, upd_same, repL_ints _⟩
    | none =>
      rw [hl] at h
      cases hs : strsOf l with
      | none => simp only [hs] at h; exact h.elim
      | some ss =>
        simp only [hs] at h
        split at h
        · rename_i h64
          have hx := strs_rep q2 hs
          subst hx
          refine .inr ⟨a, ss.map mkS, rfl, .inl (.inl (s _ _ q1)), by rw [List.length_map]; exact h64, fun ys p h1 h2 hp => ?_⟩
          obtain ⟨ms, rfl, hm⟩ := perm_mk h1
          rw [srtT_eq hm (sorted_pw ms h2)]
          exact h _ F _ (.own s hp) ⟨p, _, _, rfl, rfl, hp, s.free hp, upd_same, repL_strs _⟩
        · exact h.elim
  · exact h.elim
/-- a set's place -/
def SetTO (w : World) (a : Addr) (S : Str → Bool) (n : Nat) : HO := .ext fun h => SetT w h a S n
theorem setTO_new {w : World} {P : Program} {H : Hp} {h : Heap} {a : Addr} {S : Str → Bool} {n : Nat} (R : SetT w h a S n) : ObjOk P w H h a (SetTO w a S n) := by
  have ⟨o, _, _, _, ho, _⟩ := R
  exact ⟨R, ⟨o, ho⟩, fun h1 h2 p k => SetT.at p k⟩
theorem setTO_get {X : Cx} {pins : List (Addr × Obj)} {σ : L2.St} {H : Hp} {s : Shared} {a : Addr} {S : Str → Bool} {n : Nat} (I : Inv X pins σ H s) (ha : H a = some (SetTO X.w a S n)) : SetT X.w s.heap a S n := (I.hok a _ ha).1
theorem nodup_le {α : Type} [DecidableEq α] : ∀ {l m : List α}, l.Nodup → (∀ x ∈ l, x ∈ m) → l.length ≤ m.length
  | [], m, _, _ => by simp
  | x :: l, m, hn, hs => by
    have h1 := List.nodup_cons.mp hn
    have hx : x ∈ m := hs x (by simp)
    have := nodup_le (m := m.erase x) h1.2 fun y hy => (List.mem_erase_of_ne (by intro z; subst z; exact h1.1 hy)).mpr (hs y (by simp [hy]))
    rw [List.length_erase_of_mem hx] at this
    have := List.length_pos_of_mem hx
    simp only [List.length_cons]
    omega
theorem fold_nodup : ∀ (xs acc : List Str), acc.Nodup → (xs.foldl stepT acc).Nodup
  | [], _, h => h
  | x :: xs, acc, h => by
    rw [List.foldl_cons]
    refine fold_nodup xs _ ?_
    unfold stepT
    split
    · exact h
    · rename_i q
      exact List.nodup_cons.mpr ⟨q, h⟩
def rSetTx (K : PySem.W.Frag) (w : World) : List V → Hp → VK → Prop := fun xs H Q => ∃ (a : Addr) (ns ms : List Str), xs = [V.ref a] ∧ SqL K H a (ns.map V.str) ∧ ns.length < 1000 ∧ (∀ k ∈ ns, k ∈ ms) ∧ ms.length < 64 ∧
  ∀ (p : Addr) (S : Str → Bool) (n : Nat), (∀ k, S k = true ↔ k ∈ ns) → n < 64 → H p = none → Q (.ref p) (upd H p (SetTO w p S n))
theorem cr_setTx {X : Cx} (hc : X.calm = true) : CallR X (.type "set") (rSetTx X.K X.w) := by
  intro pins s σ H xs us Q I r h
  obtain ⟨a, ns, ms, rfl, hl, h63, hms, h64, q⟩ := h
  rw [Vals.ref1 r]
  obtain ⟨its, rv, pl, hz⟩ := I.list hl
  have ln : its.length = ns.length := by have := rv.length; simpa using this.symm
  refine set_callT (items := its.toArray) (xs := ns) (I.ok.hd hc) pl.isList (by simpa using rv.strs) (by rw [List.size_toArray, ln]; unfold scanBound; omega) fun h' tk R k => ?_
  have sz : its.toArray.size = ns.length := by rw [List.size_toArray, ln]
  rw [sz] at R
  have hn : H s.heap.objs.size = none := I.hok.fresh (Nat.le_refl _)
  refine ⟨.ref s.heap.objs.size, _, I.laid (t' := tk) (fun b o e => k b o (Heap.lt_size e) e) (Nat.le_refl _) (setTO_new R), rfl, q _ _ _ (fun k => ?_) ?_ hn⟩
  · unfold tS runT
    rw [decide_eq_true_eq, List.take_length, mem_foldT]
    simp
  · have h1 : (runT ns ns.length).Nodup := fold_nodup _ _ .nil
    have := nodup_le h1 (m := ms) fun x hx => hms x (by unfold runT at hx; rw [List.take_length, mem_foldT] at hx; simpa using hx)
    omega
def rSortedSetT (w : World) : List V → Hp → VK → Prop := fun vs H Q => ∃ (a : Addr) (S : Str → Bool) (n : Nat), vs = [V.ref a] ∧ H a = some (SetTO w a S n) ∧ n < 64 ∧
  ∀ (ns : List Str) (p : Addr), sortedS ns = true → ns.Nodup → (∀ k : Str, k ∈ ns ↔ S k = true) → ns.length = n → H p = none → Q (.ref p) (upd H p (.lst (ns.map V.str)))
theorem cr_sortedSetT {X : Cx} (hc : X.calm = true) : CallR X (.builtin "sorted") (rSortedSetT X.w) := by
  intro pins s σ H vs us Q I r h
  obtain ⟨a, S, n, rfl, ha, h64, q⟩ := h
  have R := setTO_get I ha
  rw [Vals.ref1 r]
  refine sorted_setT R (I.ok.hd hc) h64 fun s' p out c ns k g o hp hg hi hs hnd hm hl => ?_
  have hlen : (ns.map V.str).length ≤ sizeLine := by rw [List.length_map, hl, sizeLine_eq]; omega
  have hn : H p = none := I.hok.fresh hp
  have J : Inv X pins σ (upd H p (.lst (ns.map V.str))) { s with heap := s'.heap, gens := s'.gens, drawn := s'.drawn, toks := s'.toks } :=
    I.call (ch := []) (Un.laid k hp hn) (I.hok.laid k hp ⟨hlen, out.toList, c, vals_of_strs hi, hg⟩) (by rw [g]; exact I.bare) (fun _ z => nomatch z)
  have e : s' = { s with heap := s'.heap, gens := s'.gens, drawn := s'.drawn, toks := s'.toks } := by
    cases s'
    cases s
    cases o
    rfl
  rw [e]
  exact ⟨.ref p, _, J, rfl, q ns p hs hnd hm hl hn⟩
/-- the members of a list of texts, in order -/
def ddp : List (List Char) → List (List Char)
  | [] => []
  | x :: l => if x ∈ ddp l then ddp l else x :: ddp l
theorem ddp_nodup : ∀ l : List (List Char), (ddp l).Nodup
  | [] => .nil
  | x :: l => by
    unfold ddp
    split
    · exact ddp_nodup l
    · rename_i h
      exact List.nodup_cons.mpr ⟨h, ddp_nodup l⟩
theorem ddp_mem (k : List Char) : ∀ l : List (List Char), k ∈ ddp l ↔ k ∈ l
  | [] => Iff.rfl
  | x :: l => by
    unfold ddp
    split
    · rename_i h
      rw [ddp_mem k l, List.mem_cons]
      constructor
      · exact .inr
      · rintro (q | q)
        · rw [q]; exact (ddp_mem x l).mp h
        · exact q
    · rw [List.mem_cons, List.mem_cons, ddp_mem k l]
def setsT (ss : List (List Char)) : List (List Char) := srtT (ddp ss)
theorem setsT_eq {ms ss : List (List Char)} (hs : ms.Pairwise fun x y => leT x y = true) (hn : ms.Nodup) (hm : ∀ k, k ∈ ms ↔ k ∈ ss) : ms = setsT ss := by
  refine srtT_eq ((List.perm_ext_iff_of_nodup hn ?_).mpr fun k => ?_) hs
  · exact ddp_nodup _
  · rw [hm k, ddp_mem]
def dSortSet2 : List D → R D
  | [.lst l] => match intsD l with
    | some ns => if ns.Pairwise (· < ·) ∧ ns.length < 63 then .ok (.lst l) else .bad
    | none => match strsOf l with
      | some ss => if (ddp ss).length < 64 ∧ ss.length < 1000 then .ok (.lst ((setsT ss).map D.str)) else .bad
      | none => .bad
  | _ => .bad
theorem mkS_mem {s : List Char} {ss : List (List Char)} : mkS s ∈ ss.map mkS ↔ s ∈ ss := by
  constructor
  · intro h
    obtain ⟨t, ht, e⟩ := List.mem_map.mp h
    rw [← mkS_injK e]; exact ht
  · exact fun h => List.mem_map.mpr ⟨s, h, rfl⟩
theorem eo_sortSet2 [Calm G] (C : CxOk X G N k E) (hg : ∀ i, Gl (X i) "sorted") (hm : G.mg "sorted" = none) (hg2 : ∀ i, Gl (X i) "set") (hm2 : G.mg "set" = none) (hv : bootBuiltins "sorted" = some (.builtin "sorted")) (hv2 : bootBuiltins "set" = some (.type "set")) (ha : AM X G E true O [e] fa)
    (he2 : ∀ i, starEach [e] (X i).env = (false, eval e (X i).env) :: starEach [] (X i).env := by intro _; rfl) (hpl2 : ∀ i, (backTo pos2 (starEach [] (X i).env)).any (·.1) = false := by intro _; rfl)
    (he : ∀ i, starEach [.Call (.Name "set" p2) [e] [] pos2] (X i).env = (false, eval (.Call (.Name "set" p2) [e] [] pos2) (X i).env) :: starEach [] (X i).env := by intro _; rfl) (hpl : ∀ i, (backTo pos (starEach [] (X i).env)).any (·.1) = false := by intro _; rfl) :
    EO X G E O (.Call (.Name "sorted" p) [.Call (.Name "set" p2) [e] [] pos2] [] pos) (eCall dSortSet2 fa) := by
  obtain ⟨t, ht, rd2⟩ := ha.ex
  refine ⟨tCB (fun xs H Q => rSortedSet G.w xs H Q ∨ rSortedSetT G.w xs H Q) (tCons (tCB (fun xs H Q => rSetI G.K G.w xs H Q ∨ rSetTx G.K G.w xs H Q) t) tNil), fun i => pe_callB (by have q := CallR.or' (cr_sortedSet (X := X i) (C.calm i)) (cr_sortedSetT (X := X i) (C.calm i)); rw [C.ew i] at q; exact q) (hg i) (by rw [C.emg i]; exact hm) hv
    (pa_cons (pe_callTy (by have q := CallR.or' (cr_setI (X := X i) (C.calm i)) (cr_setTx (X := X i) (C.calm i)); rw [C.eK i, C.ew i] at q; exact q) (hg2 i) (by rw [C.emg i]; exact hm2) hv2 (ht i) (by decide) (by decide) (he2 i) (hpl2 i)) pa_nil (he i)) (by decide) (by decide) (he i) (hpl i), fun F0 H0 F σ H env Q rl h => rd2 F0 H0 F σ H env _ rl (PostG.bind antiO h fun ds vs F1 H1 e1 r1 h1 => ?_)⟩
  unfold dSortSet2 at h1
  split at h1
  · rename_i l
    obtain ⟨v, rfl, a, xs, rfl, q1, q2⟩ := repL1 r1
    cases hl : intsD l with
    | some ns =>
      rw [hl] at h1
      simp only at h1
      split at h1
      · rename_i hr
        have hx := intsD_rep q2 hl
        subst hx
        refine .inl ⟨a, ns, rfl, .inl (.inl (e1.i _ _ q1)), hr.2, fun q S n hS hn hq => ?_⟩
        refine .inl ⟨q, S, n, rfl, upd_same, hn, fun ms u h3 h4 h5 hu => ?_⟩
        have em : ms = ns := ris_one h3 hr.1 fun k => (h4 k).trans (hS k)
        subst em
        have hne : u ≠ q := fun z => by rw [z, upd_same] at hu; cases hu
        have hu1 : H1 u = none := by rwa [upd_ne hne] at hu
        have x1 : Ext F1 H1 F1 (upd H1 q (SetO G.w q S n)) := .own e1.i hq
        have x2 : Ext F1 (upd H1 q (SetO G.w q S n)) F1 (upd (upd H1 q (SetO G.w q S n)) u (.lst (ms.map V.int))) := .own x1.i hu
        exact h1 _ F1 _ (x1.trans x2) ⟨u, _, _, rfl, rfl, hu1, e1.i.free hu1, upd_same, q2⟩
      · exact h1.elim
    | none =>
      rw [hl] at h1
      simp only at h1
      cases hs : strsOf l with
      | none => rw [hs] at h1; exact h1.elim
      | some ss =>
        rw [hs] at h1
        simp only at h1
        split at h1
        · rename_i h63
          have hx := strs_rep q2 hs
          subst hx
          refine .inr ⟨a, ss.map mkS, (ddp ss).map mkS, rfl, .inl (.inl (e1.i _ _ q1)), by rw [List.length_map]; exact h63.2, fun k hk => ?_, by rw [List.length_map]; exact h63.1, fun q S n hS hn hq => ?_⟩
          · obtain ⟨z, hz, rfl⟩ := List.mem_map.mp hk
            exact List.mem_map.mpr ⟨z, (ddp_mem z ss).mpr hz, rfl⟩
          refine .inr ⟨q, S, n, rfl, upd_same, hn, fun ms u h3 h3b h4 h5 hu => ?_⟩
          have hne : u ≠ q := fun z => by rw [z, upd_same] at hu; cases hu
          have hu1 : H1 u = none := by rwa [upd_ne hne] at hu
          have hmem : ∀ k, k ∈ ms ↔ k ∈ ss.map mkS := fun k => (h4 k).trans (hS k)
          have hnd : ((ddp ss).map mkS).Nodup := List.Pairwise.map (R := fun x y => x ≠ y) (S := fun x y => x ≠ y) mkS (fun x y hxy z => hxy (mkS_injK z)) (ddp_nodup ss)
          have hp : ms.Perm ((ddp ss).map mkS) := (List.perm_ext_iff_of_nodup h3b hnd).mpr fun k => by
            rw [hmem k]
            simp only [List.mem_map, ddp_mem]
          obtain ⟨ls, rfl, hp2⟩ := perm_mk hp
          have el : ls = setsT ss := srtT_eq hp2 (sorted_pw ls h3)
          have x1 : Ext F1 H1 F1 (upd H1 q (SetTO G.w q S n)) := .own e1.i hq
          have x2 : Ext F1 (upd H1 q (SetTO G.w q S n)) F1 (upd (upd H1 q (SetTO G.w q S n)) u (.lst ((ls.map mkS).map V.str))) := .own x1.i hu
          rw [← el] at h1
          exact h1 _ F1 _ (x1.trans x2) ⟨u, _, _, rfl, rfl, hu1, e1.i.free hu1, upd_same, repL_strs _⟩
        · exact h1.elim
  · exact h1.elim
end
end G81

/-! Defs as values, called. -/
namespace G81
open PySem PySem.Spec PyProof.Rows L2
/-- a call of what an expression holds: the promise goes with the address -/
def tCallV (tf : TE) (S : Addr → Sp → Prop) (E : XK) (t : TA) : TE := fun σ H Q => tf σ H fun v H1 => ∃ f sp, v = .ref f ∧ S f sp ∧ t σ H1 fun vs H2 => sp vs H2 Q E
theorem pe_callV {X : Cx} {CX : CXT} {k : Nat} {E : XK} {fe e : Expr} {es : List Expr} {pos : Pos} {tf : TE} {t : TA} {S : Addr → Sp → Prop}
    (A : ∀ f sp, S f sp → ∃ (fd : FuncData) (ps : List Str), FnOk X.prog X.w X.K X.mg X.base CX k f fd ps sp ∧ PySem.W.keepIn X.K (.ref f) = true ∧ Binds X.K fd ps [])
    (hr : Room k X.A) (hx : Passes CX X E) (hf : PE X fe tf) (ha : PA X (e :: es) t)
    (heq : eval (.Call fe (e :: es) [] pos) X.env = (do callWith pos (← eval fe X.env) [] (backTo pos (starEach (e :: es) X.env)) (backToKw pos (keywordEach [] X.env))) := by rfl)
    (he : starEach (e :: es) X.env = (false, eval e X.env) :: starEach es X.env := by rfl) (hpl : (backTo pos (starEach es X.env)).any (·.1) = false := by rfl) : PE X (.Call fe (e :: es) [] pos) (tCallV tf S E t) := by
  refine ⟨fun pins s σ H Q I h => ?_⟩
  rw [heq]
  refine wpAny_bind (thn (hf.run pins s σ H _ I h) fun u s1 ⟨v, H1, I1, r1, f, sp, ev, hS, ht⟩ => ?_)
  subst ev
  cases r1
  obtain ⟨fd, ps, F, hk, hb⟩ := A f sp hS
  refine PySem.W.callWith_K (h₀ := X.base) I1.ok.mod.kin hk (thn (ha.run pos pins s1 σ _ _ I1 ht) fun us s2 ⟨vs, H2, I2, r, q⟩ => ⟨I2.kIn, ?_⟩) he hpl
  exact run_fn F hr hb .nil hx I2 r (by rw [List.append_nil]; exact q)
section
variable {ι : Type} {X : ι → Cx} {G : Gx} {E : XK} {N : List Str} {k n : Nat} {m : Bool} {O : List Nat} {pos p : Pos} {fe e : Expr} {es : List Expr} {x : Str}
@[simp] def eFn (x : Str) : Ev → R D := fun _ => .ok (.fn x)
theorem em_fn (C : CxOk X G N k E) {own : Bool} {k' n : Nat} {g : List D → R D} (F : FnM G k' x n own g) (hg : ∀ i, Gl (X i) x) (hd : (x == ("__debug__" : Str)) = false := by decide) : EM X G E m O (.Name x p) (eFn x) := by
  obtain ⟨f, fd, ps, ok, hm, hkp, hb, _⟩ := F.ex
  exact ⟨_, fun i => pe_glob (hg i) (by rw [C.emg i]; exact hm) (v := .ref f) rfl hd, fun F0 H0 F σ H env Q rl h => h _ F H (.refl rl.ext.i) ⟨f, rfl, hm⟩⟩
/-- the table of defs that may be called -/
def lookF : List (Str × (List D → R D)) → Str → Option (List D → R D)
  | [], _ => none
  | (y, g) :: r, x => if x = y then some g else lookF r x
def eCallV (tab : List (Str × (List D → R D))) (f : Ev → R D) (fa : Ev → R (List D)) : Ev → R D := fun env => (f env).bind fun d => match d with
  | .fn x => match lookF tab x with
    | some g => (fa env).bind g
    | none => .bad
  | _ => .bad
/-- each def of the table keeps its function -/
structure TabF (G : Gx) (k n : Nat) (tab : List (Str × (List D → R D))) : Prop where
  h : ∀ x g, lookF tab x = some g → ∃ k', k' ≤ k ∧ FnM G k' x n false g
theorem tabF_nil {G : Gx} {k n : Nat} : TabF G k n [] := ⟨fun x g h => by cases h⟩
theorem tabF_cons {G : Gx} {k k' n : Nat} {x : Str} {g : List D → R D} {tab : List (Str × (List D → R D))} (F : FnM G k' x n false g) (h : TabF G k n tab) (hk : decide (k' ≤ k) = true := by decide) : TabF G k n ((x, g) :: tab) := ⟨fun y g' e => by
  unfold lookF at e
  split at e
  · rename_i q
    cases e
    exact ⟨k', of_decide_eq_true hk, q ▸ F⟩
  · exact h.h y g' e⟩
theorem em_callV [Calm G] {tab : List (Str × (List D → R D))} {ff : Ev → R D} {fa : Ev → R (List D)} (C : CxOk X G N k E) (T : TabF G k n tab) (hf : EM X G E false O fe ff) (ha : AM X G E m O (e :: es) fa)
    (heq : ∀ i, eval (.Call fe (e :: es) [] pos) (X i).env = (do callWith pos (← eval fe (X i).env) [] (backTo pos (starEach (e :: es) (X i).env)) (backToKw pos (keywordEach [] (X i).env))) := by intro _; rfl)
    (he : ∀ i, starEach (e :: es) (X i).env = (false, eval e (X i).env) :: starEach es (X i).env := by intro _; rfl) (hpl : ∀ i, (backTo pos (starEach es (X i).env)).any (·.1) = false := by intro _; rfl)
    (hln : ∀ env ds, fa env = .ok ds → ds.length = n) : EM X G E m O (.Call fe (e :: es) [] pos) (eCallV tab ff fa) := by
  obtain ⟨t, ht, rd⟩ := ha.ex
  obtain ⟨tf, htf, rdf⟩ := hf.ex
  refine ⟨tCallV tf (fun f sp => ∃ x g, G.mg x = some (.ref f) ∧ lookF tab x = some g ∧ sp = spF G false n g) E t, fun i => pe_callV (CX := L2.CX G.P G.w) (k := k) (fun f sp ⟨x, g, hm, hl, hs⟩ => ?_) (C.room i) (by have q := C.pass i; rw [C.eP i, C.ew i] at q; exact q) (htf i) (ht i) (heq i) (he i) (hpl i), fun F0 H0 F σ H env Q rl h => ?_⟩
  · obtain ⟨k', hk, FM⟩ := T.h x g hl
    obtain ⟨f', fd, ps, ok, hm', hkp, hb, _⟩ := FM.ex
    have ef : f' = f := by rw [hm] at hm'; cases hm'; rfl
    subst ef; subst hs
    exact ⟨fd, ps, (FnOk.cast ok (C.eP i) (C.ew i) (C.eK i) (C.emg i) (C.ebase i)).mono hk, by rw [C.eK i]; exact hkp, by rw [C.eK i]; exact hb⟩
  · unfold eCallV at h
    refine rdf F0 H0 F σ H env _ rl (PostG.bind antiM h fun d v F1 H1 e1 r1 h1 => ?_)
    cases d <;> first | exact h1.elim | skip
    rename_i x
    obtain ⟨f, rfl, hm⟩ := r1
    simp only at h1
    cases hl : lookF tab x with
    | none => rw [hl] at h1; exact h1.elim
    | some g =>
      rw [hl] at h1
      simp only at h1
      refine ⟨f, _, rfl, ⟨x, g, hm, hl, rfl⟩, ?_⟩
      cases hfa : fa env with
      | bad => rw [hfa] at h1; exact h1.elim
      | err c => exact rd F0 H0 F1 σ H1 env _ (rl.grow e1) (post_err hfa h1)
      | ok ds =>
        rw [hfa] at h1
        refine rd F0 H0 F1 σ H1 env _ (rl.grow e1) (post_ok hfa fun vs F2 H2 e2 r2 => ?_)
        exact ⟨wd m F2 H2, ds, wd_sub e2.i, by rw [r2.len]; exact hln env ds hfa, r2, call_post e2.i (PostG.grow antiM h1 e2)⟩
end
end G81

/-! Dicts made of pairs; in; the greatest of a list. -/
namespace G81
open PySem PySem.Spec PyProof.Rows L2
abbrev KD := Int ⊕ List Char
/-- in its place, or at the end -/
def putD : List (KD × D) → KD → D → List (KD × D)
  | [], k, d => [(k, d)]
  | (j, e) :: r, k, d => if j = k then (j, d) :: r else (j, e) :: putD r k d
def mergeD (acc more : List (KD × D)) : List (KD × D) := more.foldl (fun a p => putD a p.1 p.2) acc
/-- a dict by its pairs -/
def dicOf (l : List (KD × D)) : D := .dic (l.map (·.1)) (l.map (·.2))
def pairD : D → Option (KD × D)
  | .tup [k, v] => (keyD k).map fun z => (z, v)
  | _ => none
def pairsD : List D → Option (List (KD × D))
  | [] => some []
  | d :: l => match pairD d, pairsD l with
    | some p, some ps => some (p :: ps)
    | _, _ => none
def dDictOf : List D → R D
  | [.lst l] => match pairsD l with
    | some ps => .ok (dicOf (mergeD [] ps))
    | none => .bad
  | _ => .bad
/-- pairs of keys and values beside one another -/
inductive KVs (G : Gx) (F : Hp) : List (KD × D) → List (Key × V) → Prop
  | nil : KVs G F [] []
  | cons {k : KD} {d : D} {v : V} {l : List (KD × D)} {kvs : List (Key × V)} (h : Rep G F d v) (t : KVs G F l kvs) : KVs G F ((k, d) :: l) ((kOf k, v) :: kvs)
section
variable {G : Gx} {F F' : Hp}
theorem KVs.mono (s : Same F F') {l : List (KD × D)} {kvs : List (Key × V)} (h : KVs G F l kvs) : KVs G F' l kvs := by
  induction h with
  | nil => exact .nil
  | cons h t ih => exact .cons (h.mono s) ih
theorem KVs.app {l l' : List (KD × D)} {kvs kvs' : List (Key × V)} (h : KVs G F l kvs) (h' : KVs G F l' kvs') : KVs G F (l ++ l') (kvs ++ kvs') := by
  induction h with
  | nil => exact h'
  | cons h t ih => exact .cons h ih
theorem putK_cons_pos {j k : Key} {w v : V} {r : List (Key × V)} (e : j = k) (hn : ∀ p ∈ r, p.1 ≠ k) : putK ((j, w) :: r) k v = (j, v) :: r := by
  have : r.map (fun kv => if kv.1 = k then (kv.1, v) else kv) = r := by
    conv => rhs; rw [← List.map_id r]
    exact List.map_congr_left fun p hp => by rw [if_neg (hn p hp)]; rfl
  unfold putK
  rw [if_pos (by simp [e]), List.map_cons, if_pos e, this]
theorem putK_cons_neg {j k : Key} {w v : V} {r : List (Key × V)} (e : j ≠ k) : putK ((j, w) :: r) k v = (j, w) :: putK r k v := by
  unfold putK
  simp only [List.any_cons, decide_eq_false e, Bool.false_or, List.map_cons, if_neg e]
  split <;> rfl
def NdK (l : List (KD × D)) : Prop := (l.map (·.1)).Nodup
theorem KVs.keys {l : List (KD × D)} {kvs : List (Key × V)} (h : KVs G F l kvs) : kvs.map (·.1) = l.map fun p => kOf p.1 := by
  induction h with
  | nil => rfl
  | cons h t ih => rw [List.map_cons, List.map_cons, ih]
theorem KVs.put {l : List (KD × D)} {kvs : List (Key × V)} (h : KVs G F l kvs) (hn : NdK l) {k : KD} {d : D} {v : V} (r : Rep G F d v) : KVs G F (putD l k d) (putK kvs (kOf k) v) := by
  induction h with
  | nil => exact .cons r .nil
  | @cons j e w l kvs h t ih =>
    have hn' : j ∉ l.map (·.1) ∧ NdK l := List.nodup_cons.mp hn
    rw [putD]
    split
    · rename_i q
      subst q
      rw [putK_cons_pos rfl]
      · exact .cons r t
      · intro p hp z
        have : p.1 ∈ kvs.map (·.1) := List.mem_map_of_mem hp
        rw [t.keys] at this
        obtain ⟨y, hy, e⟩ := List.mem_map.mp this
        rw [z] at e
        exact hn'.1 (List.mem_map.mpr ⟨y, hy, kOf_inj e⟩)
    · rename_i q
      rw [putK_cons_neg fun z => q (kOf_inj z)]
      exact .cons h (ih hn'.2)
theorem putD_mem {k j : KD} {d : D} : ∀ {l : List (KD × D)}, j ∈ (putD l k d).map (·.1) → j = k ∨ j ∈ l.map (·.1)
  | [], h => by simp [putD] at h; exact .inl h
  | (i, e) :: l, h => by
    rw [putD] at h
    split at h
    · simp only [List.map_cons, List.mem_cons] at h ⊢
      rcases h with h | h
      · exact .inr (.inl h)
      · exact .inr (.inr h)
    · simp only [List.map_cons, List.mem_cons] at h ⊢
      rcases h with h | h
      · exact .inr (.inl h)
      · rcases putD_mem h with h | h
        · exact .inl h
        · exact .inr (.inr h)
theorem putD_nd {k : KD} {d : D} : ∀ {l : List (KD × D)}, NdK l → NdK (putD l k d)
  | [], _ => by simp [NdK, putD]
  | (i, e) :: l, h => by
    have h' : i ∉ l.map (·.1) ∧ NdK l := List.nodup_cons.mp h
    rw [putD]
    split
    · exact h
    · rename_i q
      refine List.nodup_cons.mpr ⟨fun z => ?_, putD_nd h'.2⟩
      rcases putD_mem z with z | z
      · exact q z
      · exact h'.1 z
theorem KVs.merge {more : List (KD × D)} {kvs2 : List (Key × V)} (h2 : KVs G F more kvs2) : ∀ {l : List (KD × D)} {kvs : List (Key × V)}, KVs G F l kvs → NdK l → KVs G F (mergeD l more) (mergeK kvs kvs2) ∧ NdK (mergeD l more) := by
  induction h2 with
  | nil => exact fun h n => ⟨h, n⟩
  | cons h t ih => exact fun h' n => ih (h'.put n h) (putD_nd n)
theorem KVs.rep {l : List (KD × D)} {kvs : List (Key × V)} (h : KVs G F l kvs) : ∃ xs, kvs = zipK (l.map (·.1)) xs ∧ RepL G F (l.map (·.2)) xs := by
  induction h with
  | nil => exact ⟨[], rfl, rfl⟩
  | @cons k d v l kvs h t ih =>
    obtain ⟨xs, e, r⟩ := ih
    exact ⟨v :: xs, by rw [e]; rfl, v, xs, rfl, h, r⟩
theorem KVs.of : ∀ {ks : List KD} {vs : List D} {xs : List V}, ks.length = vs.length → RepL G F vs xs → KVs G F (ks.zip vs) (zipK ks xs)
  | [], vs, xs, hl, r => by
    cases vs with
    | nil => cases r; exact .nil
    | cons _ _ => cases hl
  | k :: ks, [], xs, hl, r => by cases hl
  | k :: ks, d :: vs, _, hl, ⟨v, xs, e, h1, h2⟩ => by
    subst e
    exact .cons h1 (KVs.of (by simpa using hl) h2)
/-- a list of pairs, in the heap -/
theorem pairs_rep {K : PySem.W.Frag} {H : Hp} (hK : G.K = K) (s : Same F H) : ∀ {l : List D} {xs : List V} {ps : List (KD × D)}, RepL G F l xs → pairsD l = some ps → ∃ (as : List Addr) (kvs : List (Key × V)), xs = as.map V.ref ∧ Paired (fun p kv => SqT K H p [kV kv.1, kv.2]) as kvs ∧ KVs G F ps kvs
  | [], xs, ps, r, h => by cases r; cases h; exact ⟨[], [], rfl, .nil, .nil⟩
  | d :: l, _, ps, ⟨v, vs, e, r1, r2⟩, h => by
    subst e
    rw [pairsD] at h
    cases h1 : pairD d with
    | none => rw [h1] at h; cases h
    | some p =>
      cases h2 : pairsD l with
      | none => rw [h1, h2] at h; cases h
      | some ps2 =>
        rw [h1, h2] at h
        cases h
        obtain ⟨as, kvs, e1, e2, e3⟩ := pairs_rep hK s r2 h2
        unfold pairD at h1
        split at h1
        · rename_i k d
          cases hk : keyD k with
          | none => rw [hk] at h1; cases h1
          | some z =>
            rw [hk] at h1
            cases h1
            obtain ⟨a, ys, rfl, q1, q2⟩ := r1
            obtain ⟨u, w, rfl, q3, q4⟩ := repL2 q2
            have q3' := key_rep q3 hk
            subst q3'
            refine ⟨a :: as, (kOf z, w) :: kvs, by rw [e1]; rfl, .cons ?_ e2, .cons q4 e3⟩
            subst hK
            exact same_sqT s q1
        · cases h1
end
section
variable {ι : Type} {X : ι → Cx} {G : Gx} {E : XK} {N : List Str} {k : Nat} {m m' : Bool} {O : List Nat}
theorem ca_dict [Calm G] (C : CxOk X G N k E) : CaM X G E m m (.type "dict") dDictOf := by
  refine ⟨_, fun i => by have q := call_dictP (X := X i) (C.calm i); rw [C.eK i] at q; exact q, fun F H vs ds Q s rv h => ?_⟩
  unfold dDictOf at h
  split at h
  · rename_i l
    obtain ⟨v, rfl, a, xs, rfl, q1, q2⟩ := repL1 rv
    cases hp : pairsD l with
    | none => rw [hp] at h; exact h.elim
    | some ps =>
      rw [hp] at h
      obtain ⟨as, kvs, rfl, e2, e3⟩ := pairs_rep (K := G.K) rfl (wd_sub s) q2 hp
      have q1H : H a = some (.lst (as.map V.ref)) := wd_sub s _ _ q1
      refine ⟨a, as, kvs, rfl, .inl (.inl q1H), e2, fun p hpn => ?_⟩
      obtain ⟨z, _⟩ := e3.merge .nil (show NdK [] from .nil)
      refine post_new h s hpn ?_
      have z' := z.mono (same_upd' (H := wd m F H) (p := p) (o := .dK (mergeK [] kvs)) ((wd_sub s).free hpn))
      obtain ⟨ws, ew, rw'⟩ := z'.rep
      exact ⟨p, ws, rfl, by rw [← ew]; exact upd_same, rw'⟩
  · exact h.elim
def dInD (x y : D) : R Bool := match y with
  | .dic ks vs => if ks.length = vs.length then (match keyD x with
    | some z => .ok (dLook ks vs z).isSome
    | none => .bad) else .bad
  | _ => .bad
def dNotInD (x y : D) : R Bool := (dInD x y).bind fun c => .ok (!c)
theorem ne_inD : NoErr dInD := fun d e c h => by
  unfold dInD at h
  split at h <;> first | cases h; done | skip
  split at h <;> first | cases h; done | skip
  split at h <;> cases h
theorem ne_notInD : NoErr dNotInD := fun d e c h => by
  unfold dNotInD at h
  cases q : dInD d e with
  | ok c => rw [q] at h; cases h
  | err c => exact absurd q (ne_inD d e c)
  | bad => rw [q] at h; cases h
def rInD : R2 := fun x y H Q => ∃ (a : Addr) (o : Option V), y = .ref a ∧ DGet H a x o ∧ Q (.bl o.isSome) H
def rNotInD : R2 := fun x y H Q => ∃ (a : Addr) (o : Option V), y = .ref a ∧ DGet H a x o ∧ Q (.bl (!o.isSome)) H
theorem op_inD {X : Cx} (hu : X.A.units + 1 < cLine) : OpR X (compareOp .In) rInD := by
  intro pins s σ H x y v u Q I rx ry h
  obtain ⟨a, o, rfl, g, q⟩ := h
  cases ry
  exact d_in hu I g rx fun s' I' => ⟨.bl o.isSome, H, I', rfl, q⟩
theorem op_notInD {X : Cx} (hu : X.A.units + 1 < cLine) : OpR X (compareOp .NotIn) rNotInD := by
  intro pins s σ H x y v u Q I rx ry h
  obtain ⟨a, o, rfl, g, q⟩ := h
  cases ry
  exact d_notIn hu I g rx fun s' I' => ⟨.bl (!o.isSome), H, I', rfl, q⟩
theorem inD_get {H : Hp} {x y : V} {d e : D} {c : Bool} (rx : Rep G H d x) (ry : Rep G H e y) (hc : dInD d e = .ok c) : ∃ (a : Addr) (o : Option V), y = .ref a ∧ DGet H a x o ∧ c = o.isSome := by
  unfold dInD at hc
  split at hc
  · rename_i ks vs
    split at hc
    · rename_i hl
      split at hc
      · rename_i z hz
        cases hc
        obtain ⟨a, xs, rfl, h1, h2⟩ := ry
        rw [key_rep rx hz]
        refine ⟨a, valV (zipK ks xs) (kOf z), rfl, DGet.k h1, ?_⟩
        cases hd : dLook ks vs z with
        | some d => obtain ⟨v, hv, _⟩ := look_rep h2 hd; rw [hv]; rfl
        | none => rw [look_none (by rw [h2.len]) hd]; rfl
      · cases hc
    · cases hc
  · cases hc
theorem cm_inD [Calm G] (C : CxOk X G N k E) : CmM X G (compareOp .In) dInD := by
  refine ⟨_, fun i => op_inD (hu_of (C.room i)), fun H x y d e Q rx ry hq ⟨c, hc⟩ => ?_⟩
  obtain ⟨a, o, rfl, g, rfl⟩ := inD_get rx ry hc
  exact ⟨a, o, rfl, g, hq _ hc⟩
theorem cm_notInD [Calm G] (C : CxOk X G N k E) : CmM X G (compareOp .NotIn) dNotInD := by
  refine ⟨_, fun i => op_notInD (hu_of (C.room i)), fun H x y d e Q rx ry hq ⟨c, hc⟩ => ?_⟩
  unfold dNotInD at hc hq
  cases hd : dInD d e with
  | err _ => rw [hd] at hc; cases hc
  | bad => rw [hd] at hc; cases hc
  | ok b =>
    obtain ⟨a, o, rfl, g, rfl⟩ := inD_get rx ry hd
    exact ⟨a, o, rfl, g, hq _ (by rw [hd]; rfl)⟩
/-- max(xs) -/
def maxI : List Int → Int
  | [] => 0
  | [x] => x
  | x :: y :: r => max x (maxI (y :: r))
theorem maxI_ge : ∀ {l : List Int} {y : Int}, y ∈ l → y ≤ maxI l
  | [x], y, h => by simp at h; subst h; exact Int.le_refl _
  | x :: z :: r, y, h => by
    rw [maxI]
    rcases List.mem_cons.mp h with h | h
    · subst h; omega
    · have := maxI_ge h; omega
theorem maxI_mem : ∀ {l : List Int}, l ≠ [] → maxI l ∈ l
  | [], h => absurd rfl h
  | [x], _ => by simp [maxI]
  | x :: z :: r, _ => by
    rw [maxI]
    have := maxI_mem (l := z :: r) (by simp)
    rcases Int.le_total x (maxI (z :: r)) with q | q
    · rw [Int.max_eq_right q]; exact List.mem_cons_of_mem _ this
    · rw [Int.max_eq_left q]; exact List.mem_cons_self
def dMax : List D → R D
  | [.lst l] => match intsOf l with
    | some ns => if ns = [] then .bad else .ok (.int (maxI ns))
    | none => .bad
  | _ => .bad
theorem ca_max [Calm G] (C : CxOk X G N k E) : CaM X G E false m' (.builtin "max") dMax := by
  refine ⟨_, fun i => by have q := cr_max (C.calm i); rw [C.eK i] at q; exact q, fun F H vs ds Q s rv h => ?_⟩
  unfold dMax at h
  split at h
  · rename_i l
    obtain ⟨v, rfl, a, xs, rfl, q1, q2⟩ := repL1 rv
    cases hl : intsOf l with
    | none => rw [hl] at h; exact h.elim
    | some ns =>
      rw [hl] at h
      simp only at h
      split at h
      · exact h.elim
      · rename_i hn
        have hx := ints_rep q2 hl
        subst hx
        refine ⟨a, ns, rfl, .inl (.inl q1), List.length_pos_iff.mpr hn, fun m hm hg => ?_⟩
        have e : m = maxI ns := Int.le_antisymm (maxI_ge hm) (hg _ (maxI_mem hn))
        rw [e]
        exact h _ F H (.refl s) rfl
  · exact h.elim
end
end G81

/-! xs[a:c] = ys, xs a list of one's own. -/
namespace G81
open PySem PySem.Spec PyProof.Rows L2
def gSubSl (to : TE) (tl th : L2.TO) : TG := fun v σ H Q => to σ H fun o H1 => tl σ H1 fun y H2 => th σ H2 fun z H3 => ∃ (l b : Addr) (xs ys : List V) (a c : Int),
  o = .ref l ∧ v = .ref b ∧ y = some a ∧ z = some c ∧ H3 l = some (.lst xs) ∧ H3 b = some (.lst ys) ∧ l ≠ b ∧ 0 ≤ a ∧ a ≤ c ∧ c ≤ xs.length ∧ xs.length + ys.length ≤ sizeLine ∧ Q σ (upd H3 l (.lst (xs.take a.toNat ++ ys ++ xs.drop c.toNat)))
theorem pg_subSl {X : Cx} {o lo hi : Expr} {to : TE} {tl th : L2.TO} {pos p2 : Pos} (ho : PE X o to) (hl : PO X (some lo) tl) (hh : PO X (some hi) th)
    (ha : ∀ v, assign (.Subscript o (.Slice (some lo) (some hi) none p2) pos) X.env v = (do
      let ov ← holding [v] (eval o X.env)
      let iv ← holding [v, ov] (eval (.Slice (some lo) (some hi) none p2) X.env)
      standAt pos
      holding [v, ov, iv] (setItem ov iv v)
      release [iv, v, ov] []) := by intro _; rfl) : PG X (.Subscript o (.Slice (some lo) (some hi) none p2) pos) (gSubSl to tl th) := by
  refine ⟨fun pins s σ H v u Q I r h => ?_⟩
  rw [ha]
  refine wpAny_bind (wpAny_holding (thn (ho.run pins s σ H _ I h) fun ov s1 ⟨x, H1, I1, r1, q1⟩ => ?_))
  refine wpAny_bind (wpAny_holding (wpAny_Slice (thn (hl.run pins s1 σ H1 _ I1 q1) fun vl s2 ⟨y, H2, I2, r2, q2⟩ => thn (hh.run pins s2 σ H2 _ I2 q2) fun vu s3 ⟨z, H3, I3, r3, l, b, xs, ys, a, c, e1, e2, e3, e4, hH, hB, hne, h0, hac, hc, hz, q3⟩ => ?_)))
  subst e1 e2 e3 e4
  rw [evalPart_none]
  refine wpAny_pure ?_
  have I4 : Inv X pins σ H3 { s3 with heap := s3.heap.push { cls := .type "slice", data := .fields #[vl, vu, .none] } } := I3.kept (t' := s3.toks) fun b ob q => Heap.get?_push_of_some _ q
  cases r1
  cases r
  cases r2 with | int a t2 => ?_
  cases r3 with | int c t3 => ?_
  refine wpAny_bind (wpAny_standAt (wpAny_bind (wpAny_holding ?_)))
  refine thn (set_slice (s := { s3 with heap := s3.heap.push { cls := .type "slice", data := .fields #[.int a t2, .int c t3, .none] } }) (Q := fun _ s4 => ∃ H', Inv X pins σ H' s4 ∧ Q σ H') I4 hH hB hne (Heap.IsSliceOf.new ..) ⟨_, rfl⟩ ⟨_, rfl⟩ h0 hac hc hz (fun s4 I5 => ⟨_, I5, q3⟩)) fun _ s4 ⟨H', I5, q4⟩ => ?_
  exact wpAny_release ⟨σ, H', I5, q4⟩
def sSetSl (i : Nat) (g g2 f : Ev → R D) : Ev → Out := fun env => sOf (f env) fun d => match d with
  | .lst ys => (match lstOf (Ev.get env i) with
    | none => .bad
    | some l => sOf (g env) fun j => match j with
      | .int a => sOf (g2 env) fun j2 => (match j2 with
        | .int c => if 0 ≤ a ∧ a ≤ c ∧ c ≤ l.length ∧ l.length + ys.length ≤ line then .nx (Ev.set env i (.lst (l.take a.toNat ++ ys ++ l.drop c.toNat))) else .bad
        | _ => .bad)
      | _ => .bad)
  | _ => .bad
section
variable {ι : Type} {X : ι → Cx} {G : Gx} {E : XK} {N : List Str} {k : Nat} {own : Bool} {O : List Nat} {pos p p2 cpos : Pos} {e lo hi : Expr} {x : Str}
theorem sm_setSl (C : CxOk X G N k E) (i : Nat) {g g2 f : Ev → R D} (hi' : decide (i ∈ O) = true) (hN : N[i]? = some x) (hv : ∀ j, Vis (X j).env.scope x) (hg : EM X G E false O lo g) (hg2 : EM X G E false O hi g2) (he : EO X G E O e f) (hd : (x == ("__debug__" : Str)) = false := by decide) (hcd : (x == ("__classdict__" : Str)) = false := by decide)
    (ha : ∀ j v, assign (.Subscript (.Name x p) (.Slice (some lo) (some hi) none p2) cpos) (X j).env v = (do
      let ov ← holding [v] (eval (.Name x p) (X j).env)
      let iv ← holding [v, ov] (eval (.Slice (some lo) (some hi) none p2) (X j).env)
      standAt cpos
      holding [v, ov, iv] (setItem ov iv v)
      release [iv, v, ov] []) := by intro _ _; rfl)
    (hs : ∀ j, swapsWithSole [.Subscript (.Name x p) (.Slice (some lo) (some hi) none p2) cpos] e pos.line (X j).env = pure false := by intro _; rfl) (hw : ∀ j, swappedStores [.Subscript (.Name x p) (.Slice (some lo) (some hi) none p2) cpos] e (X j).env = pure none := by intro _; rfl)
    (h1 : ∀ j, (assignEach [.Subscript (.Name x p) (.Slice (some lo) (some hi) none p2) cpos] (X j).env).map (·.2) = [assign (.Subscript (.Name x p) (.Slice (some lo) (some hi) none p2) cpos) (X j).env] := by intro _; rfl) :
    SM X G E own O O (.Assign [.Subscript (.Name x p) (.Slice (some lo) (some hi) none p2) cpos] e pos) (sSetSl i g g2 f) := by
  obtain ⟨t, ht, rd⟩ := he.ex
  obtain ⟨u, hu, rd2⟩ := hg.ex
  obtain ⟨u2, hu2, rd3⟩ := hg2.ex
  refine ⟨tAsg t (gSubSl (tVar i) (tPart u) (tPart u2)), fun j => ps_asg (ht j) (pg_subSl (pe_var (i := i) (pos := p) (by rw [C.eN j]; exact hN) (hv j) hd hcd) (po_some (hu j)) (po_some (hu2 j)) (ha j)) (hs j) (hw j) (h1 j), fun F0 H0 F σ H env D rl h => ?_⟩
  refine rd F0 H0 F σ H env _ rl (SPost.of rl h fun d v F1 H1 e1 r1 h1' => ?_)
  have rl1 := rl.grow e1
  obtain ⟨b, ys, l', rfl, rfl, hb0, hbF, hbH, hbl⟩ := r1
  simp only at h1'
  cases hl : lstOf (Ev.get env i) with
  | none => rw [hl] at h1'; exact h1'.elim
  | some l =>
    rw [hl] at h1'
    have hset := lstOf_eq hl
    obtain ⟨a, xs, l2, e, es, hH, hF, h0, hlx⟩ := own_at rl1 (of_decide_eq_true hi') hset
    cases e
    have hne : a ≠ b := fun z => own_ne rl (of_decide_eq_true hi') hset hb0 (by rw [es, z])
    refine ⟨_, es, rd2 F0 H0 F1 σ H1 env _ rl1 (SPost.of rl1 h1' fun z w F2 H2 e2 r2 h2 => ?_)⟩
    cases z <;> first | exact h2.elim | skip
    cases r2
    rename_i za
    simp only at h2
    refine ⟨za, rfl, ?_⟩
    refine rd3 F0 H0 F2 σ H2 env _ (rl1.grow e2) (SPost.of (rl1.grow e2) h2 fun z w F3 H3 e3 r3 h3 => ?_)
    cases z <;> first | exact h3.elim | skip
    cases r3
    rename_i zc
    simp only at h3
    refine ⟨zc, rfl, ?_⟩
    split at h3
    · rename_i hc
      have rl3 := (rl1.grow e2).grow e3
      refine ⟨a, b, xs, ys, za, zc, rfl, rfl, rfl, rfl, e3.h _ _ (e2.h _ _ hH), e3.h _ _ (e2.h _ _ hbH), hne, hc.1, hc.2.1, by rw [hlx.len]; exact hc.2.2.1, by rw [hlx.len, hbl.len, line_eq]; exact hc.2.2.2, ?_⟩
      have hl3 := (hlx.mono e2.f).mono e3.f
      have hb3 := (hbl.mono e2.f).mono e3.f
      exact h3 F3 σ _ (.refl _) (rl3.mut (of_decide_eq_true hi') hset es (((hl3.take za.toNat).app hb3).app (hl3.drop zc.toNat)))
    · exact h3.elim
end
end G81

/-! Written dicts of the module, str(..), int(text), split. -/
namespace G81
open PySem PySem.Spec PyProof.Rows L2
/-! ### a written dict of the module, texts at texts -/
def entsOk : List DictEntry → List (List Char × List Char) → Prop
  | [], [] => True
  | e :: es, (k, v) :: tab => (∃ t, e.key = .str (mkS k) t) ∧ (∃ t, e.val = .str (mkS v) t) ∧ entsOk es tab
  | _, _ => False
def lkW : List (List Char × List Char) → List Char → Option (List Char)
  | [], _ => none
  | (k, v) :: r, s => if k = s then some v else lkW r s
structure WDk (K : PySem.W.Frag) (w : World) (mg : Str → Option Value) (x : Str) (tab : List (List Char × List Char)) : Prop where
  ex : ∃ d es n, mg x = some (.ref d) ∧ KDict K w d es n ∧ entsOk es.toList tab
theorem find_w : ∀ {l : List DictEntry} {tab : List (List Char × List Char)} (z : List Char), entsOk l tab → match lkW tab z with
    | some v => ∃ e t, l.find? (·.key.isStr (mkS z)) = some e ∧ e.val = .str (mkS v) t
    | none => l.find? (·.key.isStr (mkS z)) = none ∧ l.any (·.refKey) = false
  | [], [], z, _ => ⟨rfl, rfl⟩
  | e :: l, (k, v) :: tab, z, ⟨⟨t, h1⟩, ⟨u, h2⟩, h3⟩ => by
    have ih := find_w z h3
    simp only [lkW]
    by_cases hk : k = z
    · rw [if_pos hk]
      subst hk
      refine ⟨e, u, ?_, h2⟩
      rw [List.find?_cons, h1, PySem.W.isStr_of]
      simp [Value.isStrOf]
    · rw [if_neg hk]
      have hn : e.key.isStr (mkS z) = false := by
        rw [h1, PySem.W.isStr_of]
        simp only [Value.isStrOf]
        have : ¬ mkS k = mkS z := fun q => hk (mkS_injK q)
        simp [this]
        try exact fun q => this q.symm
      have hr : e.refKey = false := by unfold DictEntry.refKey; rw [h1]
      rw [List.find?_cons, hn, List.any_cons, hr]
      exact ih
  | [], _ :: _, _, h => h.elim
  | _ :: _, [], _, h => h.elim
theorem nsIn_w {K : PySem.W.Frag} {w : World} {d : Addr} {es : Array DictEntry} {n : Nat} {tab : List (List Char × List Char)} (h : KDict K w d es n) (he : entsOk es.toList tab) (z : List Char) :
    ∃ r, PySem.W.nsIn K d (mkS z) = some r ∧ match lkW tab z with
      | some v => ∃ t, r = some (.str (mkS v) t)
      | none => r = none := by
  have q := find_w z he
  unfold PySem.W.nsIn
  rw [h.at_]
  dsimp only
  cases hl : lkW tab z with
  | some v =>
    rw [hl] at q
    obtain ⟨e, t, q1, q2⟩ := q
    rw [q1]
    exact ⟨_, rfl, t, by rw [q2]⟩
  | none =>
    rw [hl] at q
    rw [q.1]
    simp only [q.2]
    exact ⟨none, rfl, rfl⟩
def dInW (x : Str) (tab : List (List Char × List Char)) (a d : D) : R Bool := match a, d with
  | .str s, .fn y => if y = x then .ok (lkW tab s).isSome else .bad
  | _, _ => .bad
def dNotInW (x : Str) (tab : List (List Char × List Char)) (a d : D) : R Bool := match a, d with
  | .str s, .fn y => if y = x then .ok (!(lkW tab s).isSome) else .bad
  | _, _ => .bad
def dGetW (x : Str) (tab : List (List Char × List Char)) (d a : D) : R D := match d, a with
  | .fn y, .str s => if y = x then (match lkW tab s with | some v => .ok (.str v) | none => .bad) else .bad
  | _, _ => .bad
theorem ne_inW {x : Str} {tab : List (List Char × List Char)} : NoErr (dInW x tab) := fun d e c h => by
  unfold dInW at h
  split at h <;> first | cases h; done | skip
  split at h <;> cases h
theorem ne_notInW {x : Str} {tab : List (List Char × List Char)} : NoErr (dNotInW x tab) := fun d e c h => by
  unfold dNotInW at h
  split at h <;> first | cases h; done | skip
  split at h <;> cases h
section
variable {ι : Type} {X : ι → Cx} {G : Gx} {E : XK} {N : List Str} {k : Nat} {m m' : Bool} {O : List Nat} {pos p apos : Pos} {a b e : Expr} {es : List Expr} {fa fb fe : Ev → R D} {x : Str} {tab : List (List Char × List Char)}
theorem em_wd (C : CxOk X G N k E) (W : WDk G.K G.w G.mg x tab) (hg : ∀ i, Gl (X i) x) (hd : (x == ("__debug__" : Str)) = false := by decide) : EM X G E m O (.Name x p) (eFn x) := by
  obtain ⟨d, es, n, hm, _⟩ := W.ex
  exact ⟨_, fun i => pe_glob (hg i) (by rw [C.emg i]; exact hm) (v := .ref d) rfl hd, fun F0 H0 F σ H env Q rl h => h _ F H (.refl rl.ext.i) ⟨d, rfl, hm⟩⟩
theorem cm_inW (C : CxOk X G N k E) (W : WDk G.K G.w G.mg x tab) : CmM X G (compareOp .In) (dInW x tab) := by
  obtain ⟨d, es, n, hm, hk, he⟩ := W.ex
  refine ⟨_, fun i => by have q := op_in_kd (X := X i) (d := d) (es := es) (n := n) (by rw [C.eK i, C.ew i]; exact hk); rw [C.eK i] at q; exact q, fun H u v a c Q ru rv hq ⟨r, hc⟩ => ?_⟩
  obtain ⟨s, y, rfl, rfl⟩ : ∃ s y, a = .str s ∧ c = .fn y := by
    cases a <;> first | cases hc; done | skip
    cases c <;> first | cases hc; done | skip
    exact ⟨_, _, rfl, rfl⟩
  simp only [dInW] at hc hq
  split at hc <;> first | cases hc; done | skip
  rename_i hy
  subst hy
  cases ru
  obtain ⟨f, rfl, hf⟩ := rv
  rw [hm] at hf
  cases hf
  obtain ⟨r1, h1, h2⟩ := nsIn_w hk he s
  refine ⟨mkS s, r1, rfl, rfl, h1, hq _ ?_⟩
  rw [if_pos rfl]
  cases hl : lkW tab s with
  | some w => rw [hl] at h2; obtain ⟨t, rfl⟩ := h2; rfl
  | none => rw [hl] at h2; rw [h2]; rfl
theorem cm_notInW (C : CxOk X G N k E) (W : WDk G.K G.w G.mg x tab) : CmM X G (compareOp .NotIn) (dNotInW x tab) := by
  obtain ⟨d, es, n, hm, hk, he⟩ := W.ex
  refine ⟨_, fun i => by have q := op_notIn_kd (X := X i) (d := d) (es := es) (n := n) (by rw [C.eK i, C.ew i]; exact hk); rw [C.eK i] at q; exact q, fun H u v a c Q ru rv hq ⟨r, hc⟩ => ?_⟩
  obtain ⟨s, y, rfl, rfl⟩ : ∃ s y, a = .str s ∧ c = .fn y := by
    cases a <;> first | cases hc; done | skip
    cases c <;> first | cases hc; done | skip
    exact ⟨_, _, rfl, rfl⟩
  simp only [dNotInW] at hc hq
  split at hc <;> first | cases hc; done | skip
  rename_i hy
  subst hy
  cases ru
  obtain ⟨f, rfl, hf⟩ := rv
  rw [hm] at hf
  cases hf
  obtain ⟨r1, h1, h2⟩ := nsIn_w hk he s
  refine ⟨mkS s, r1, rfl, rfl, h1, hq _ ?_⟩
  rw [if_pos rfl]
  cases hl : lkW tab s with
  | some w => rw [hl] at h2; obtain ⟨t, rfl⟩ := h2; rfl
  | none => rw [hl] at h2; rw [h2]; rfl
theorem em_wget (C : CxOk X G N k E) (W : WDk G.K G.w G.mg x tab) (ha : EM X G E m O a fa) (hb : EM X G E false O b fb) (hs : PlainIx b) : EM X G E m O (.Subscript a b pos) (eOp (dGetW x tab) fa fb) := by
  obtain ⟨d, es, n, hm, hk, he⟩ := W.ex
  obtain ⟨ta, pa, ra⟩ := ha.ex
  obtain ⟨tb, pb, rb⟩ := hb.ex
  refine ⟨tOp (rIxD G.K G.w) ta tb, fun i => pe_ix (by have q := ix_kdict (X := X i); rw [C.eK i, C.ew i] at q; exact q) (pa i) (pb i) hs, fun F0 H0 F σ H env Q rl h => ?_⟩
  refine ra F0 H0 F σ H env _ rl (PostG.bind antiM h fun u vu F1 H1 e1 r1 h1 => ?_)
  refine rb F0 H0 F1 σ H1 env _ (rl.grow e1) (PostG.bind antiM h1 fun y vy F2 H2 e2 r2 h2 => ?_)
  unfold dGetW at h2
  split at h2 <;> first | exact h2.elim | skip
  rename_i y s
  split at h2 <;> first | exact h2.elim | skip
  rename_i hy
  subst hy
  obtain ⟨f, rfl, hf⟩ := r1
  rw [hm] at hf
  cases hf
  cases r2
  obtain ⟨r1, h1, h3⟩ := nsIn_w hk he s
  cases hl : lkW tab s with
  | none => rw [hl] at h2; exact h2.elim
  | some v =>
    rw [hl] at h2 h3
    obtain ⟨t, rfl⟩ := h3
    exact ⟨d, mkS s, .str (mkS v), rfl, rfl, ⟨es, n, _, hk.at_, hk.lit, h1, ⟨t, rfl⟩⟩, h2 _ F2 H2 (.refl e2.i) rfl⟩
/-! ### str(x), int(text) -/
def strI (i : Int) : List Char := (toString i).toList
def dStrOf : List D → R D
  | [.int i] => if i.natAbs < 1000000 then .ok (.str (strI i)) else .bad
  | [.str s] => .ok (.str s)
  | _ => .bad
theorem ca_str : CaM X G E false m' (.type "str") dStrOf := by
  refine ⟨_, fun i => CallR.or' call_str_int SkE.call_str_str, fun F H vs ds Q s rv h => ?_⟩
  unfold dStrOf at h
  split at h
  · rename_i j
    obtain ⟨v, rfl, q⟩ := repL1 rv; cases q
    split at h <;> first | exact h.elim | skip
    rename_i hj
    refine .inl ⟨j, rfl, ?_, h _ F H (.refl s) (rep_str _)⟩
    have h0 : j.natAbs.log2 < 20 := by
      by_cases hz : j.natAbs = 0
      · rw [hz]; decide
      · exact (Nat.log2_lt hz).mpr (Nat.lt_of_lt_of_le hj (by decide))
    omega
  · obtain ⟨v, rfl, q⟩ := repL1 rv; cases q
    exact .inr ⟨_, rfl, h _ F H (.refl s) rfl⟩
  · exact h.elim
def dIntT : List D → R D
  | [.str s] => if s.length ≤ 640 then (match PySem.intText? (mkS s) with | some n => .ok (.int n) | none => .bad) else .bad
  | _ => .bad
theorem mkS_len (s : List Char) : (mkS s).length = s.length := by simp [mkS, Str.length]
theorem ca_intT : CaM X G E false m' (.type "int") dIntT := by
  refine ⟨_, fun i => call_int_str, fun F H vs ds Q s rv h => ?_⟩
  unfold dIntT at h
  split at h
  · rename_i z
    obtain ⟨v, rfl, q⟩ := repL1 rv; cases q
    split at h <;> first | exact h.elim | skip
    rename_i hz
    cases hn : PySem.intText? (mkS z) with
    | none => rw [hn] at h; exact h.elim
    | some n => rw [hn] at h; exact ⟨_, n, rfl, hn, by rw [mkS_len]; exact hz, h _ F H (.refl s) rfl⟩
  · exact h.elim
/-! ### split -/
def splA (c : Char) : List Char → List Char → List (List Char)
  | acc, [] => [acc]
  | acc, x :: r => if x = c then acc :: splA c [] r else splA c (acc ++ [x]) r
def splC (c : Char) (s : List Char) : List (List Char) := splA c [] s
/-- a text cut at each sep from the left; k signs are still to be passed over -/
def splS (S : List Char) : Nat → List Char → List Char → List (List Char)
  | _, acc, [] => [acc]
  | 0, acc, c :: r => if (c :: r).take S.length = S then acc :: splS S (S.length - 1) [] r else splS S 0 (acc ++ [c]) r
  | k + 1, acc, _ :: r => splS S k acc r
theorem toNat_inj {a b : List Char} : a.map Char.toNat = b.map Char.toNat ↔ a = b :=
  ⟨fun h => (List.map_inj_right (fun _ _ e => Char.toNat_inj.mp e)).mp h, fun h => by rw [h]⟩
theorem spl_splS (S : List Char) : ∀ (s acc : List Char) (k : Nat), TL.spl (S.map Char.toNat) k (acc.map Char.toNat) (s.map Char.toNat) = (splS S k acc s).map fun l => l.map Char.toNat
  | [], acc, k => by rw [List.map_nil, TL.spl_nil]; cases k <;> rfl
  | x :: r, acc, 0 => by
    rw [List.map_cons, splS]
    by_cases h : (x :: r).take S.length = S
    · rw [if_pos h, TL.spl_hit (by
        simp only [TL.pre, List.length_map, beq_iff_eq]
        rw [← List.map_cons, ← List.map_take, h])]
      have := spl_splS S r [] (S.length - 1)
      simp only [List.map_nil] at this
      simp only [List.length_map, List.map_cons]
      rw [← this]
    · rw [if_neg h, TL.spl_miss (by
        simp only [TL.pre, List.length_map, beq_eq_false_iff_ne, ne_eq]
        rw [← List.map_cons, ← List.map_take]
        exact fun q => h (toNat_inj.mp q))]
      have := spl_splS S r (acc ++ [x]) 0
      rw [List.map_append] at this
      exact this
  | x :: r, acc, k + 1 => by
    rw [List.map_cons]
    exact spl_splS S r acc k
theorem splS_one (c : Char) : ∀ (s acc : List Char), splS [c] 0 acc s = splA c acc s
  | [], acc => rfl
  | x :: r, acc => by
    simp only [splS, splA, List.length_cons, List.length_nil, List.take_succ_cons, List.take_zero, List.cons.injEq, and_true]
    split
    · exact congrArg _ (splS_one c r [])
    · exact splS_one c r _
theorem txt_splitS (S : List Char) (hS : S ≠ []) (hc : S.all (fun c => decide (c.toNat < 256)) = true) (s : List Char) : Txt.split (mkS s) (mkS S) = (splS S 0 [] s).map mkS := by
  refine TL.map_tl_inj ?_
  have t1 : ∀ z : List Char, TL.tl (mkS z) = z.map Char.toNat := fun z => by simp [TL.tl, mkS]
  have k1 : (mkS S).cps.all (· < 256) = true := by
    rw [← Array.all_toList]
    show ((S.map Char.toNat).toArray.toList).all _ = true
    simp only [List.all_map]
    exact hc
  rw [TL.split_spl _ _ (by rw [t1]; simpa using hS) (TL.kind_ok k1), t1, t1, List.map_map]
  have := spl_splS S s [] 0
  simp only [List.map_nil] at this
  rw [this]
  congr 1
def dSplit (s : List Char) (d : D) : R D := match d with
  | .str S => if S ≠ [] ∧ S.all (fun c => decide (c.toNat < 256)) = true ∧ s.length + 2 ≤ line then .ok (.lst ((splS S 0 [] s).map .str)) else .bad
  | _ => .bad
theorem eo_split (C : CxOk X G N k E) (ha : EM X G E false O a fa) (he : EM X G E false O e fe) (hs : ∀ i, starEach [e] (X i).env = [(false, eval e (X i).env)] := by intro _; rfl) (hbase : ∀ i, attributeBase a "split" (X i).env (eval a (X i).env) = eval a (X i).env := by intro _; rfl) (hline : (apos.endLine == pos.line) = true := by rfl) :
    EO X G E O (.Call (.Attribute a "split" apos) [e] [] pos) (eMs dSplit fa fe) := by
  obtain ⟨ta, pa, ra⟩ := ha.ex
  obtain ⟨te, pe, re⟩ := he.ex
  refine ⟨_, fun i => pe_split (pa i) (pe i) (hs i) (hbase i) hline, fun F0 H0 F σ H env Q rl h => ?_⟩
  refine ra F0 H0 F σ H env _ rl (PostG.bind antiO h fun d v F1 H1 e1 r1 h1 => ?_)
  cases d <;> first | exact h1.elim | skip
  cases r1
  refine ⟨⟨_, rfl⟩, re F0 H0 F1 σ H1 env _ (rl.grow e1) (PostG.bind antiO h1 fun d2 w F2 H2 e2 r2 h2 => ?_)⟩
  unfold dSplit at h2
  split at h2 <;> first | exact h2.elim | skip
  rename_i S
  split at h2 <;> first | exact h2.elim | skip
  rename_i hc
  cases r2
  refine ⟨_, _, rfl, rfl, by rw [mkS_len]; have := hc.1; cases S <;> simp at this ⊢, by rw [mkS_len]; exact hc.2.2, fun p hp => ?_⟩
  rw [txt_splitS S hc.1 hc.2.1]
  exact h2 _ F2 _ (.own e2.i hp) ⟨p, _, _, rfl, rfl, hp, e2.i.free hp, upd_same, repL_strs _⟩
end
end G81

/-! Facts of the head for written dicts; texts in order. -/
namespace G81
open PySem PySem.Spec PyProof.Rows L2
theorem wdk_mk {K : PySem.W.Frag} {w : World} {h : Heap} {mg : Str → Option Value} {x : Str} {d : Addr} {es : Array DictEntry} {n : Nat} {tab : List (List Char × List Char)} (X : K.In h) (G : h.Ns mainGlobals mg)
    (hn : PySem.W.nsIn K mainGlobals x = some (some (.ref d))) (hl : K.lookup d = some ⟨.type "dict", none, .dict es n, #[]⟩) (hk : PySem.W.KeysLit w.params es.toList) (ho : (d == sysModules) = false) (he : entsOk es.toList tab) : WDk K w mg x tab :=
  ⟨d, es, n, PySem.W.mg_of X G hn, ⟨hl, hk, ho⟩, he⟩
/-! ### texts in order -/
def dLeT : D → D → R Bool
  | .str a, .str b => .ok (leT a b)
  | _, _ => .bad
theorem ne_leT : NoErr dLeT := fun d e c h => by
  unfold dLeT at h
  split at h <;> cases h
section
variable {ι : Type} {X : ι → Cx} {G : Gx} {E : XK} {N : List Str} {k : Nat} {m m' : Bool} {O : List Nat} {pos p apos : Pos}
theorem cm_leT : CmM X G (compareOp .LtE) dLeT := by
  refine ⟨_, fun i => op_le_str, fun H x y d e Q rx ry hq ⟨c, hc⟩ => ?_⟩
  cases d <;> cases e <;> first | cases hc; done | skip
  cases rx; cases ry
  refine ⟨_, _, rfl, rfl, hq _ ?_⟩
  simp only [dLeT, leT, mkS_cps]
/-! ### where a text first stands in a text -/
def fstO (b s : List Char) : Option Nat := (List.range (s.length + 1)).find? fun i => decide ((s.drop i).take b.length = b)
def dIndexT (d e : D) : R D := match d, e with
  | .str s, .str b => if b ≠ [] then (match fstO b s with | some i => .ok (.int i) | none => .bad) else .bad
  | _, _ => .bad
theorem occ_fst {b s : List Char} {i : Nat} (hb : b ≠ []) (h : fstO b s = some i) : ∃ r, Builtin.Str.occurrences (mkS s) (mkS b) 0 (mkS s).length 1 = i :: r := by
  have t1 : ∀ z : List Char, TL.tl (mkS z) = z.map Char.toNat := fun z => by simp [TL.tl, mkS]
  have hy : TL.tl (mkS b) ≠ [] := by rw [t1]; simpa using hb
  have at_ : ∀ k, PySem.StrLaws.At (mkS s) (mkS b) (mkS s).length k ↔ (s.drop k).take b.length = b := fun k => by
    rw [TL.at_iff hy, t1, t1]
    simp only [TL.pre, List.length_map, beq_iff_eq]
    rw [← List.map_drop, ← List.map_take]
    exact toNat_inj
  have hm := List.find?_some h
  simp only [decide_eq_true_eq] at hm
  rcases PySem.StrLaws.occ_head (mkS s) (mkS b) 1 (Nat.le_refl 1) with ⟨h0, hn⟩ | ⟨k, r, h0, hk, hn⟩
  · exact absurd ((at_ i).mpr hm) (hn i)
  · have e : k = i := by
      rcases Nat.lt_trichotomy k i with q | q | q
      · have := List.mem_of_find?_eq_some h
        simp only [List.mem_range] at this
        unfold fstO at h
        rw [List.find?_eq_some_iff_append] at h
        obtain ⟨_, pre, post, e1, e2⟩ := h
        have hpl : pre.length = i := by
          have z := congrArg (fun l => l[pre.length]?) e1
          simp only [List.getElem?_append_right (Nat.le_refl _), Nat.sub_self, List.getElem?_cons_zero] at z
          have zl := congrArg List.length e1
          simp only [List.length_range, List.length_append, List.length_cons] at zl
          rw [List.getElem?_range (by omega)] at z
          exact Option.some.inj z
        have hkp : k ∈ pre := by
          have z := congrArg (fun l => l[k]?) e1
          simp only [List.getElem?_append_left (show k < pre.length by omega)] at z
          rw [List.getElem?_range (by omega)] at z
          exact List.mem_of_getElem? z.symm
        have := e2 k hkp
        simp only [Bool.not_eq_true', decide_eq_false_iff_not] at this
        exact absurd ((at_ k).mp hk) this
      · exact q
      · exact absurd ((at_ i).mpr hm) (hn i q)
    rw [← e]
    exact ⟨r, h0⟩
section
variable {a e : Expr} {fa fe : Ev → R D}
theorem em_indexT (C : CxOk X G N k E) (ha : EM X G E false O a fa) (he : EM X G E false O e fe) (hs : ∀ i, starEach [e] (X i).env = [(false, eval e (X i).env)] := by intro _; rfl) (hbase : ∀ i, attributeBase a "index" (X i).env (eval a (X i).env) = eval a (X i).env := by intro _; rfl) (hline : (apos.endLine == pos.line) = true := by rfl) :
    EM X G E m O (.Call (.Attribute a "index" apos) [e] [] pos) (eMs (fun s d => dIndexT (.str s) d) fa fe) := by
  refine em_ms C PySem.F.slot_str_index PySem.F.type_str_index (fun i => mt_sindex (X := X i)) (fun F H s d v Q i rv h => ?_) ha he hs hbase hline
  unfold dIndexT at h
  split at h <;> first | exact h.elim | skip
  rename_i s' b h1 
  cases h1
  split at h <;> first | exact h.elim | skip
  rename_i hb
  cases hf : fstO b s with
  | none => rw [hf] at h; exact h.elim
  | some k =>
    rw [hf] at h
    obtain ⟨r, hr⟩ := occ_fst hb hf
    cases rv
    exact ⟨_, _, k, r, rfl, rfl, hr, h _ F H (.refl i) rfl⟩
end
end
end G81

/-! The defs that linked texts share, as functions of data. -/
namespace G81
open PySem
noncomputable section
def b_units_of_0 : Ev → Out :=
  (sSeq (sIf (tCm dEq (eVar 2) (eStr "keep")) (sSeq (sExt 1 (xOf (eOp dMul (eLst (aCons (eTup (aCons (eStr "keep") (aCons (eStr "") aNil))) aNil)) (eVar 3))))
  sNil) (sSeq (sExt 1 (xOf (eLc [4] (iSeq (eVar 3)) (tsN 4) tTrue (eTup (aCons (eVar 2) (aCons (eVar 4) aNil))))))
  sNil))
  sNil)
def N_units_of : List Str := ["change", "found", "word", "what", "sign"]
def s_units_of : Ev → Out :=
  (sSeq (sSet 1 (eLst aNil))
  (sSeq (sFor (iSeq (eVar 0)) (tsT [2, 3]) b_units_of_0)
  (sSeq (sRet (eVar 1))
  sNil)))
def f_units_of (ds : List D) : R D := toR true (s_units_of (startE N_units_of ds))

def b_of_units_0 : Ev → Out :=
  (sSeq (sIf (tCm dEq (eVar 5) (eStr "keep")) (sSeq (sIf (tAndF (tOrF (tCm dNe (eVar 3) (eStr "")) (tCm dNe (eVar 4) (eStr ""))) (tCm dGt (eVar 2) (eInt 0))) (sSeq (sApp 1 (xOf (eTup (aCons (eStr "keep") (aCons (eVar 2) aNil)))))
  (sSeq (sSet 2 (eInt 0))
  sNil)) sNil)
  (sSeq (sExt 1 (xOf (eOp dAdd (eOp dMul (eLst (aCons (eTup (aCons (eStr "drop") (aCons (eVar 3) aNil))) aNil)) (eCall dInt (aCons (eCm dNe (eVar 3) (eStr "")) aNil))) (eOp dMul (eLst (aCons (eTup (aCons (eStr "put") (aCons (eVar 4) aNil))) aNil)) (eCall dInt (aCons (eCm dNe (eVar 4) (eStr "")) aNil))))))
  (sSeq (sSet 3 (eStr ""))
  (sSeq (sSet 4 (eStr ""))
  (sSeq (sSet 2 (eOp dAdd (eVar 2) (eInt 1)))
  sNil))))) (sSeq (sIf (tCm dEq (eVar 5) (eStr "drop")) (sSeq (sSet 3 (eOp dAdd (eVar 3) (eVar 6)))
  sNil) (sSeq (sSet 4 (eOp dAdd (eVar 4) (eVar 6)))
  sNil))
  sNil))
  sNil)
def N_of_units : List Str := ["units", "found", "kept", "gone", "new", "word", "sign"]
def s_of_units : Ev → Out :=
  (sSeq (sSet 1 (eLst aNil))
  (sSeq (sSet 2 (eInt 0))
  (sSeq (sSet 3 (eStr ""))
  (sSeq (sSet 4 (eStr ""))
  (sSeq (sFor (iSeq (eOp dAdd (eVar 0) (eLst (aCons (eTup (aCons (eStr "keep") (aCons (eStr "") aNil))) aNil)))) (tsT [5, 6]) b_of_units_0)
  (sSeq (sIf (tCm dGt (eVar 2) (eInt 1)) (sSeq (sApp 1 (xOf (eTup (aCons (eStr "keep") (aCons (eOp dSub (eVar 2) (eInt 1)) aNil)))))
  sNil) sNil)
  (sSeq (sRet (eCall dTuple (aCons (eVar 1) aNil)))
  sNil)))))))
def f_of_units (ds : List D) : R D := toR false (s_of_units (startE N_of_units ds))

def N_form : List Str := ["change"]
def s_form : Ev → Out :=
  (sSeq (sRet (eCall f_of_units (aCons (eCall f_units_of (aCons (eVar 0) aNil)) aNil)))
  sNil)
def f_form (ds : List D) : R D := toR false (s_form (startE N_form ds))

def N_before : List Str := ["change", "unit"]
def s_before : Ev → Out :=
  (sSeq (sRet (eCall dLen (aCons (eLc [1] (iSeq (eCall f_units_of (aCons (eVar 0) aNil))) (tsN 1) (tCm dNe (eOp dIx (eVar 1) (eInt 0)) (eStr "put")) (eVar 1)) aNil)))
  sNil)
def f_before (ds : List D) : R D := toR false (s_before (startE N_before ds))

def N_after : List Str := ["change", "unit"]
def s_after : Ev → Out :=
  (sSeq (sRet (eCall dLen (aCons (eLc [1] (iSeq (eCall f_units_of (aCons (eVar 0) aNil))) (tsN 1) (tCm dNe (eOp dIx (eVar 1) (eInt 0)) (eStr "drop")) (eVar 1)) aNil)))
  sNil)
def f_after (ds : List D) : R D := toR false (s_after (startE N_after ds))

def N_cost : List Str := ["change", "unit"]
def s_cost : Ev → Out :=
  (sSeq (sRet (eCall dLen (aCons (eLc [1] (iSeq (eCall f_units_of (aCons (eVar 0) aNil))) (tsN 1) (tCm dNe (eOp dIx (eVar 1) (eInt 0)) (eStr "keep")) (eVar 1)) aNil)))
  sNil)
def f_cost (ds : List D) : R D := toR false (s_cost (startE N_cost ds))

def N_is_signs : List Str := ["thing", "sign"]
def s_is_signs : Ev → Out :=
  (sSeq (sRet (eAnd (eIsi Ty5.str (eVar 0)) (eCall dAll (aCons (eLc [1] (iSeq (eVar 0)) (tsN 1) tTrue (eCm dIn (eVar 1) (eStr "abcdefghijklmnopqrstuvwxyz "))) aNil))))
  sNil)
def f_is_signs (ds : List D) : R D := toR false (s_is_signs (startE N_is_signs ds))

def N_is_part : List Str := ["thing"]
def s_is_part : Ev → Out :=
  (sSeq (sIf (tOrF (tNotF (tVal (eIsi Ty5.tuple (eVar 0)))) (tOrF (tCm dNe (eCall dLen (aCons (eVar 0) aNil)) (eInt 2)) (tNotF (tVal (eIsi Ty5.str (eOp dIx (eVar 0) (eInt 0))))))) (sSeq (sRet (eBl false))
  sNil) sNil)
  (sSeq (sIf (tCm dEq (eOp dIx (eVar 0) (eInt 0)) (eStr "keep")) (sSeq (sRet (eAnd (eIsi Ty5.int (eOp dIx (eVar 0) (eInt 1))) (eAnd (eNot (eIsi Ty5.bool (eOp dIx (eVar 0) (eInt 1)))) (eCh dLe dLe (eInt 1) (eOp dIx (eVar 0) (eInt 1)) (eInt 99)))))
  sNil) sNil)
  (sSeq (sRet (eAnd (eCm dIn (eOp dIx (eVar 0) (eInt 0)) (eTup (aCons (eStr "put") (aCons (eStr "drop") aNil)))) (eAnd (eCall f_is_signs (aCons (eOp dIx (eVar 0) (eInt 1)) aNil)) (eCh dLe dLe (eInt 1) (eCall dLen (aCons (eOp dIx (eVar 0) (eInt 1)) aNil)) (eInt 8)))))
  sNil)))
def f_is_part (ds : List D) : R D := toR false (s_is_part (startE N_is_part ds))

def N_is_change : List Str := ["thing", "part"]
def s_is_change : Ev → Out :=
  (sSeq (sRet (eAnd (eIsi Ty5.tuple (eVar 0)) (eAnd (eCm dLe (eCall dLen (aCons (eVar 0) aNil)) (eInt 12)) (eCall dAll (aCons (eLc [1] (iSeq (eVar 0)) (tsN 1) tTrue (eCall f_is_part (aCons (eVar 1) aNil))) aNil)))))
  sNil)
def f_is_change (ds : List D) : R D := toR false (s_is_change (startE N_is_change ds))

def b_fits_0 : Ev → Out :=
  (sSeq (sIf (tAndF (tCm dEq (eVar 3) (eStr "drop")) (tCm dNe (eOp dIx (eVar 1) (eVar 2)) (eVar 4))) (sSeq (sRet (eBl false))
  sNil) sNil)
  (sSeq (sIf (tCm dNe (eVar 3) (eStr "put")) (sSeq (sSet 2 (eOp dAdd (eVar 2) (eInt 1)))
  sNil) sNil)
  sNil))
def N_fits : List Str := ["change", "text", "place", "word", "sign"]
def s_fits : Ev → Out :=
  (sSeq (sIf (tCm dNe (eCall f_before (aCons (eVar 0) aNil)) (eCall dLen (aCons (eVar 1) aNil))) (sSeq (sRet (eBl false))
  sNil) sNil)
  (sSeq (sSet 2 (eInt 0))
  (sSeq (sFor (iSeq (eCall f_units_of (aCons (eVar 0) aNil))) (tsT [3, 4]) b_fits_0)
  (sSeq (sRet (eBl true))
  sNil))))
def f_fits (ds : List D) : R D := toR false (s_fits (startE N_fits ds))

def b_done_0 : Ev → Out :=
  (sSeq (sIf (tCm dEq (eVar 4) (eStr "put")) (sSeq (sSet 3 (eOp dAdd (eVar 3) (eVar 5)))
  sNil) (sSeq (sSet 3 (eOp dAdd (eVar 3) (eIf (tCm dEq (eVar 4) (eStr "keep")) (eOp dIx (eVar 1) (eVar 2)) (eStr ""))))
  (sSeq (sSet 2 (eOp dAdd (eVar 2) (eInt 1)))
  sNil)))
  sNil)
def N_done : List Str := ["change", "text", "place", "found", "word", "sign"]
def s_done : Ev → Out :=
  (sSeq (sIf (tNotF (tVal (eCall f_fits (aCons (eVar 0) (aCons (eVar 1) aNil))))) (sSeq (sRaise "NoFit")
  sNil) sNil)
  (sSeq (sSet 2 (eInt 0))
  (sSeq (sSet 3 (eStr ""))
  (sSeq (sFor (iSeq (eCall f_units_of (aCons (eVar 0) aNil))) (tsT [4, 5]) b_done_0)
  (sSeq (sRet (eVar 3))
  sNil)))))
def f_done (ds : List D) : R D := toR false (s_done (startE N_done ds))

def N_undone : List Str := ["change", "back", "word", "sign"]
def s_undone : Ev → Out :=
  (sSeq (sSet 1 (eDict [("keep", "keep"), ("put", "drop"), ("drop", "put")]))
  (sSeq (sRet (eCall f_of_units (aCons (eLc [2, 3] (iSeq (eCall f_units_of (aCons (eVar 0) aNil))) (tsT [2, 3]) tTrue (eTup (aCons (eOp dGetD (eVar 1) (eVar 2)) (aCons (eVar 3) aNil)))) aNil)))
  sNil))
def f_undone (ds : List D) : R D := toR false (s_undone (startE N_undone ds))

def N_nothing : List Str := ["many"]
def s_nothing : Ev → Out :=
  (sSeq (sRet (eCall f_of_units (aCons (eOp dMul (eLst (aCons (eTup (aCons (eStr "keep") (aCons (eStr "") aNil))) aNil)) (eVar 0)) aNil)))
  sNil)
def f_nothing (ds : List D) : R D := toR false (s_nothing (startE N_nothing ds))

def N_met : List Str := ["one", "other"]
def s_met : Ev → Out :=
  (sSeq (sIf (tCm dEq (eOp dIx (eVar 0) (eInt 0)) (eStr "keep")) (sSeq (sRet (eLst (aCons (eVar 1) aNil)))
  sNil) sNil)
  (sSeq (sIf (tCm dEq (eOp dIx (eVar 1) (eInt 0)) (eStr "keep")) (sSeq (sRet (eLst (aCons (eVar 0) aNil)))
  sNil) sNil)
  (sSeq (sIf (tCm dNe (eOp dIx (eVar 0) (eInt 1)) (eOp dIx (eVar 1) (eInt 1))) (sSeq (sRaise "NoFit")
  sNil) sNil)
  (sSeq (sRet (eLst aNil))
  sNil))))
def f_met (ds : List D) : R D := toR false (s_met (startE N_met ds))

def b_then_0 : Ev → Out :=
  (sSeq (sIf (tAndF (tCm dNe (eVar 2) (eLst aNil)) (tCm dEq (eOp dIx (eOp dIx (eVar 2) (eInt 0)) (eInt 0)) (eStr "drop"))) (sSeq (sApp 4 (xPop0 2))
  sNil) (sSeq (sIf (tAndF (tCm dNe (eVar 3) (eLst aNil)) (tCm dEq (eOp dIx (eOp dIx (eVar 3) (eInt 0)) (eInt 0)) (eStr "put"))) (sSeq (sApp 4 (xPop0 3))
  sNil) (sSeq (sIf (tOrF (tCm dEq (eVar 2) (eLst aNil)) (tCm dEq (eVar 3) (eLst aNil))) (sSeq (sRaise "NoFit")
  sNil) (sSeq (sExt 4 (xCall f_met (xaCons (xPop0 2) (xaCons (xPop0 3) xaNil))))
  sNil))
  sNil))
  sNil))
  sNil)
def N_then : List Str := ["one", "other", "mine", "yours", "found"]
def s_then : Ev → Out :=
  (sSeq (sSet 2 (eCall f_units_of (aCons (eVar 0) aNil)))
  (sSeq (sSet 3 (eCall f_units_of (aCons (eVar 1) aNil)))
  (sSeq (sSet 4 (eLst aNil))
  (sSeq (sWh (tOrF (tCm dNe (eVar 2) (eLst aNil)) (tCm dNe (eVar 3) (eLst aNil))) b_then_0)
  (sSeq (sRet (eCall f_of_units (aCons (eVar 4) aNil)))
  sNil)))))
def f_then (ds : List D) : R D := toR false (s_then (startE N_then ds))

def b_all_then_0 : Ev → Out :=
  (sSeq (sSet 2 (eCall f_then (aCons (eVar 2) (aCons (eVar 3) aNil))))
  sNil)
def N_all_then : List Str := ["many", "rows", "found", "change"]
def s_all_then : Ev → Out :=
  (sSeq (sSet 2 (eCall f_nothing (aCons (eVar 0) aNil)))
  (sSeq (sFor (iSeq (eVar 1)) (tsN 3) b_all_then_0)
  (sSeq (sRet (eVar 2))
  sNil)))
def f_all_then (ds : List D) : R D := toR false (s_all_then (startE N_all_then ds))

def N_left_of : List Str := ["one", "other"]
def s_left_of : Ev → Out :=
  (sSeq (sIf (tAndF (tCm dEq (eOp dIx (eVar 0) (eInt 0)) (eStr "drop")) (tAndF (tCm dEq (eOp dIx (eVar 1) (eInt 0)) (eStr "drop")) (tCm dNe (eOp dIx (eVar 0) (eInt 1)) (eOp dIx (eVar 1) (eInt 1))))) (sSeq (sRaise "Clash")
  sNil) sNil)
  (sSeq (sRet (eIf (tCm dEq (eOp dIx (eVar 1) (eInt 0)) (eStr "keep")) (eLst (aCons (eVar 0) aNil)) (eLst aNil)))
  sNil))
def f_left_of (ds : List D) : R D := toR false (s_left_of (startE N_left_of ds))

def b_past_0 : Ev → Out :=
  (sSeq (sSet 6 (eAnd (eCm dNe (eVar 3) (eLst aNil)) (eCm dEq (eOp dIx (eOp dIx (eVar 3) (eInt 0)) (eInt 0)) (eStr "put"))))
  (sSeq (sIf (tAndF (tVal (eVar 6)) (tOrF (tVal (eVar 2)) (tOrF (tCm dEq (eVar 4) (eLst aNil)) (tCm dNe (eOp dIx (eOp dIx (eVar 4) (eInt 0)) (eInt 0)) (eStr "put"))))) (sSeq (sApp 5 (xPop0 3))
  sNil) (sSeq (sIf (tAndF (tCm dNe (eVar 4) (eLst aNil)) (tCm dEq (eOp dIx (eOp dIx (eVar 4) (eInt 0)) (eInt 0)) (eStr "put"))) (sSeq (sDrop (xPop0 4))
  (sSeq (sApp 5 (xOf (eTup (aCons (eStr "keep") (aCons (eStr "") aNil)))))
  sNil)) (sSeq (sIf (tOrF (tCm dEq (eVar 3) (eLst aNil)) (tCm dEq (eVar 4) (eLst aNil))) (sSeq (sRaise "NoFit")
  sNil) (sSeq (sExt 5 (xCall f_left_of (xaCons (xPop0 3) (xaCons (xPop0 4) xaNil))))
  sNil))
  sNil))
  sNil))
  sNil))
def N_past : List Str := ["one", "other", "is_first", "mine", "yours", "found", "is_put"]
def s_past : Ev → Out :=
  (sSeq (sSet 3 (eCall f_units_of (aCons (eCall f_form (aCons (eVar 0) aNil)) aNil)))
  (sSeq (sSet 4 (eCall f_units_of (aCons (eCall f_form (aCons (eVar 1) aNil)) aNil)))
  (sSeq (sSet 5 (eLst aNil))
  (sSeq (sWh (tOrF (tCm dNe (eVar 3) (eLst aNil)) (tCm dNe (eVar 4) (eLst aNil))) b_past_0)
  (sSeq (sRet (eCall f_of_units (aCons (eVar 5) aNil)))
  sNil)))))
def f_past (ds : List D) : R D := toR false (s_past (startE N_past ds))

def N_merged : List Str := ["one", "other"]
def s_merged : Ev → Out :=
  (sSeq (sRet (eCall f_then (aCons (eVar 0) (aCons (eCall f_past (aCons (eVar 1) (aCons (eVar 0) (aCons (eBl false) aNil)))) aNil))))
  sNil)
def f_merged (ds : List D) : R D := toR false (s_merged (startE N_merged ds))

def b_clashing_0 : Ev → Out :=
  (sSeq (sIf (tAndF (tCm dEq (eOp dIx (eOp dIx (eVar 6) (eInt 0)) (eInt 0)) (eStr "drop")) (tAndF (tCm dEq (eOp dIx (eOp dIx (eVar 6) (eInt 1)) (eInt 0)) (eStr "drop")) (tCm dNe (eOp dIx (eOp dIx (eVar 6) (eInt 0)) (eInt 1)) (eOp dIx (eOp dIx (eVar 6) (eInt 1)) (eInt 1))))) (sSeq (sApp 4 (xOf (eVar 5)))
  sNil) sNil)
  sNil)
def N_clashing : List Str := ["one", "other", "mine", "yours", "found", "place", "both", "unit"]
def s_clashing : Ev → Out :=
  (sSeq (sSet 2 (eLc [7] (iSeq (eCall f_units_of (aCons (eVar 0) aNil))) (tsN 7) (tCm dNe (eOp dIx (eVar 7) (eInt 0)) (eStr "put")) (eVar 7)))
  (sSeq (sSet 3 (eLc [7] (iSeq (eCall f_units_of (aCons (eVar 1) aNil))) (tsN 7) (tCm dNe (eOp dIx (eVar 7) (eInt 0)) (eStr "put")) (eVar 7)))
  (sSeq (sIf (tCm dNe (eCall dLen (aCons (eVar 2) aNil)) (eCall dLen (aCons (eVar 3) aNil))) (sSeq (sRaise "NoFit")
  sNil) sNil)
  (sSeq (sSet 4 (eLst aNil))
  (sSeq (sFor (iEz (aCons (eVar 2) (aCons (eVar 3) aNil))) (tsT [5, 6]) b_clashing_0)
  (sSeq (sRet (eVar 4))
  sNil))))))
def f_clashing (ds : List D) : R D := toR false (s_clashing (startE N_clashing ds))

def b_rows_past_0 : Ev → Out :=
  (sSeq (sApp 4 (xOf (eCall f_past (aCons (eVar 5) (aCons (eVar 3) (aCons (eBl false) aNil))))))
  (sSeq (sSet 3 (eCall f_past (aCons (eVar 3) (aCons (eVar 5) (aCons (eBl true) aNil)))))
  sNil))
def b_rows_past_1 : Ev → Out :=
  (sSeq (sSet 4 (eLst aNil))
  (sSeq (sFor (iSeq (eVar 1)) (tsN 5) b_rows_past_0)
  (sSeq (sApp 2 (xOf (eCall f_form (aCons (eVar 3) aNil))))
  (sSeq (sSet 1 (eVar 4))
  sNil))))
def N_rows_past : List Str := ["ones", "others", "rows", "one", "led", "other"]
def s_rows_past : Ev → Out :=
  (sSeq (sSet 2 (eLst aNil))
  (sSeq (sFor (iSeq (eVar 0)) (tsN 3) b_rows_past_1)
  (sSeq (sRet (eTup (aCons (eVar 2) (aCons (eLc [5] (iSeq (eVar 1)) (tsN 5) tTrue (eCall f_form (aCons (eVar 5) aNil))) aNil))))
  sNil)))
def f_rows_past (ds : List D) : R D := toR false (s_rows_past (startE N_rows_past ds))

def b_place_after_0 : Ev → Out :=
  (sSeq (sIf (tAndF (tCm dEq (eVar 5) (eStr "put")) (tOrF (tCm dLt (eVar 3) (eVar 1)) (tAndF (tCm dEq (eVar 3) (eVar 1)) (tCm dEq (eVar 2) (eStr "behind"))))) (sSeq (sSet 4 (eOp dAdd (eVar 4) (eInt 1)))
  sNil) (sSeq (sIf (tCm dNe (eVar 5) (eStr "put")) (sSeq (sIf (tAndF (tCm dEq (eVar 5) (eStr "keep")) (tCm dLt (eVar 3) (eVar 1))) (sSeq (sSet 4 (eOp dAdd (eVar 4) (eInt 1)))
  sNil) sNil)
  (sSeq (sSet 3 (eOp dAdd (eVar 3) (eInt 1)))
  sNil)) sNil)
  sNil))
  sNil)
def N_place_after : List Str := ["change", "place", "side", "gone", "found", "word", "sign"]
def s_place_after : Ev → Out :=
  (sSeq (sIf (tNotF (tCh dLe dLe (eInt 0) (eVar 1) (eCall f_before (aCons (eVar 0) aNil)))) (sSeq (sRaise "NoPlace")
  sNil) sNil)
  (sSeq (sSet 3 (eInt 0))
  (sSeq (sSet 4 (eInt 0))
  (sSeq (sFor (iSeq (eCall f_units_of (aCons (eCall f_form (aCons (eVar 0) aNil)) aNil))) (tsT [5, 6]) b_place_after_0)
  (sSeq (sRet (eVar 4))
  sNil)))))
def f_place_after (ds : List D) : R D := toR false (s_place_after (startE N_place_after ds))

def N_place_before : List Str := ["change", "place", "side"]
def s_place_before : Ev → Out :=
  (sSeq (sRet (eCall f_place_after (aCons (eCall f_undone (aCons (eVar 0) aNil)) (aCons (eVar 1) (aCons (eVar 2) aNil)))))
  sNil)
def f_place_before (ds : List D) : R D := toR false (s_place_before (startE N_place_before ds))

def N_sign_after : List Str := ["change", "place", "units", "unit"]
def s_sign_after : Ev → Out :=
  (sSeq (sIf (tNotF (tCh dLe dLt (eInt 0) (eVar 1) (eCall f_before (aCons (eVar 0) aNil)))) (sSeq (sRaise "NoPlace")
  sNil) sNil)
  (sSeq (sSet 2 (eLc [3] (iSeq (eCall f_units_of (aCons (eCall f_form (aCons (eVar 0) aNil)) aNil))) (tsN 3) (tCm dNe (eOp dIx (eVar 3) (eInt 0)) (eStr "put")) (eVar 3)))
  (sSeq (sRet (eIf (tCm dEq (eOp dIx (eOp dIx (eVar 2) (eVar 1)) (eInt 0)) (eStr "keep")) (eCall f_place_after (aCons (eVar 0) (aCons (eVar 1) (aCons (eStr "behind") aNil)))) eNon))
  sNil)))
def f_sign_after (ds : List D) : R D := toR false (s_sign_after (startE N_sign_after ds))

def b_touched_0 : Ev → Out :=
  (sSeq (sIf (tCm dEq (eVar 3) (eStr "keep")) (sSeq (sSet 2 (eOp dAdd (eVar 2) (eVar 4)))
  sNil) (sSeq (sIf (tCm dEq (eVar 3) (eStr "drop")) (sSeq (sApp 1 (xOf (eTup (aCons (eVar 2) (aCons (eVar 4) (aCons (eStr "") aNil))))))
  (sSeq (sSet 2 (eOp dAdd (eVar 2) (eCall dLen (aCons (eVar 4) aNil))))
  sNil)) (sSeq (sIf (tAndF (tCm dNe (eVar 1) (eLst aNil)) (tAndF (tCm dEq (eOp dAdd (eOp dIx (eOp dIx (eVar 1) (eNeg (eInt 1))) (eInt 0)) (eCall dLen (aCons (eOp dIx (eOp dIx (eVar 1) (eNeg (eInt 1))) (eInt 1)) aNil))) (eVar 2)) (tCm dEq (eOp dIx (eOp dIx (eVar 1) (eNeg (eInt 1))) (eInt 2)) (eStr "")))) (sSeq (sSetI 1 (eNeg (eInt 1)) (eOp dAdd (eSl (eOp dIx (eVar 1) (eNeg (eInt 1))) oNone (oSome (eInt 2))) (eTup (aCons (eVar 4) aNil))))
  sNil) (sSeq (sApp 1 (xOf (eTup (aCons (eVar 2) (aCons (eStr "") (aCons (eVar 4) aNil))))))
  sNil))
  sNil))
  sNil))
  sNil)
def N_touched : List Str := ["change", "found", "place", "word", "what"]
def s_touched : Ev → Out :=
  (sSeq (sSet 1 (eLst aNil))
  (sSeq (sSet 2 (eInt 0))
  (sSeq (sFor (iSeq (eCall f_form (aCons (eVar 0) aNil))) (tsT [3, 4]) b_touched_0)
  (sSeq (sRet (eVar 1))
  sNil))))
def f_touched (ds : List D) : R D := toR false (s_touched (startE N_touched ds))

def b_of_touched_0 : Ev → Out :=
  (sSeq (sSet 2 (eOp dAdd (eOp dAdd (eVar 2) (eOp dMul (eLst (aCons (eTup (aCons (eStr "keep") (aCons (eStr "") aNil))) aNil)) (eOp dSub (eVar 4) (eVar 3)))) (eLc [7] (iSeq (eVar 5)) (tsN 7) tTrue (eTup (aCons (eStr "drop") (aCons (eVar 7) aNil))))))
  (sSeq (sSet 2 (eOp dAdd (eVar 2) (eLc [7] (iSeq (eVar 6)) (tsN 7) tTrue (eTup (aCons (eStr "put") (aCons (eVar 7) aNil))))))
  (sSeq (sSet 3 (eOp dAdd (eVar 4) (eCall dLen (aCons (eVar 5) aNil))))
  sNil)))
def N_of_touched : List Str := ["many", "rows", "found", "place", "start", "gone", "new", "sign"]
def s_of_touched : Ev → Out :=
  (sSeq (sSet 2 (eLst aNil))
  (sSeq (sSet 3 (eInt 0))
  (sSeq (sFor (iSeq (eVar 1)) (tsT [4, 5, 6]) b_of_touched_0)
  (sSeq (sRet (eCall f_of_units (aCons (eOp dAdd (eVar 2) (eOp dMul (eLst (aCons (eTup (aCons (eStr "keep") (aCons (eStr "") aNil))) aNil)) (eOp dSub (eVar 0) (eVar 3)))) aNil)))
  sNil))))
def f_of_touched (ds : List D) : R D := toR false (s_of_touched (startE N_of_touched ds))

def N_drops_of : List Str := ["change", "unit"]
def s_drops_of : Ev → Out :=
  (sSeq (sRet (eCall f_of_units (aCons (eLc [1] (iSeq (eCall f_units_of (aCons (eVar 0) aNil))) (tsN 1) (tCm dNe (eOp dIx (eVar 1) (eInt 0)) (eStr "put")) (eVar 1)) aNil)))
  sNil)
def f_drops_of (ds : List D) : R D := toR false (s_drops_of (startE N_drops_of ds))

def N_puts_of : List Str := ["change", "unit"]
def s_puts_of : Ev → Out :=
  (sSeq (sRet (eCall f_of_units (aCons (eLc [1] (iSeq (eCall f_units_of (aCons (eCall f_form (aCons (eVar 0) aNil)) aNil))) (tsN 1) (tCm dNe (eOp dIx (eVar 1) (eInt 0)) (eStr "drop")) (eVar 1)) aNil)))
  sNil)
def f_puts_of (ds : List D) : R D := toR false (s_puts_of (startE N_puts_of ds))

def N_joined : List Str := ["one", "other"]
def s_joined : Ev → Out :=
  (sSeq (sRet (eCall f_of_units (aCons (eOp dAdd (eCall f_units_of (aCons (eVar 0) aNil)) (eCall f_units_of (aCons (eVar 1) aNil))) aNil)))
  sNil)
def f_joined (ds : List D) : R D := toR false (s_joined (startE N_joined ds))

def b_cut_0 : Ev → Out :=
  (sSeq (sIf (tOrF (tCm dLt (eVar 4) (eVar 1)) (tAndF (tCm dEq (eVar 4) (eVar 1)) (tCm dEq (eOp dIx (eVar 5) (eInt 0)) (eStr "put")))) (sSeq (sApp 2 (xOf (eVar 5)))
  sNil) (sSeq (sApp 3 (xOf (eVar 5)))
  sNil))
  (sSeq (sSet 4 (eOp dAdd (eVar 4) (eCall dInt (aCons (eCm dNe (eOp dIx (eVar 5) (eInt 0)) (eStr "put")) aNil))))
  sNil))
def N_cut : List Str := ["change", "place", "first", "last", "gone", "unit"]
def s_cut : Ev → Out :=
  (sSeq (sIf (tNotF (tCh dLe dLe (eInt 0) (eVar 1) (eCall f_before (aCons (eVar 0) aNil)))) (sSeq (sRaise "NoPlace")
  sNil) sNil)
  (sSeq (sSet 2 (eLst aNil))
  (sSeq (sSet 3 (eLst aNil))
  (sSeq (sSet 4 (eInt 0))
  (sSeq (sFor (iSeq (eCall f_units_of (aCons (eCall f_form (aCons (eVar 0) aNil)) aNil))) (tsN 5) b_cut_0)
  (sSeq (sRet (eTup (aCons (eCall f_of_units (aCons (eVar 2) aNil)) (aCons (eCall f_of_units (aCons (eVar 3) aNil)) aNil))))
  sNil))))))
def f_cut (ds : List D) : R D := toR false (s_cut (startE N_cut ds))

def b_singles_0 : Ev → Out :=
  (sSeq (sIf (tCm dNe (eOp dIx (eVar 4) (eInt 0)) (eStr "keep")) (sSeq (sSet 5 (eCall dLen (aCons (eLc [7] (iSeq (eSl (eVar 1) oNone (oSome (eVar 3)))) (tsN 7) (tCm dNe (eOp dIx (eVar 7) (eInt 0)) (eStr "drop")) (eVar 7)) aNil)))
  (sSeq (sSet 6 (eCall dLen (aCons (eLc [7] (iSeq (eSl (eVar 1) (oSome (eOp dAdd (eVar 3) (eInt 1))) oNone)) (tsN 7) (tCm dNe (eOp dIx (eVar 7) (eInt 0)) (eStr "put")) (eVar 7)) aNil)))
  (sSeq (sApp 2 (xOf (eCall f_joined (aCons (eCall f_joined (aCons (eCall f_nothing (aCons (eVar 5) aNil)) (aCons (eCall f_of_units (aCons (eLst (aCons (eVar 4) aNil)) aNil)) aNil))) (aCons (eCall f_nothing (aCons (eVar 6) aNil)) aNil)))))
  sNil))) sNil)
  sNil)
def N_singles : List Str := ["change", "units", "found", "at", "unit", "ahead", "behind", "one"]
def s_singles : Ev → Out :=
  (sSeq (sSet 1 (eCall f_units_of (aCons (eCall f_form (aCons (eVar 0) aNil)) aNil)))
  (sSeq (sSet 2 (eLst aNil))
  (sSeq (sFor (iEn (aCons (eVar 1) aNil)) (tsT [3, 4]) b_singles_0)
  (sSeq (sRet (eVar 2))
  sNil))))
def f_singles (ds : List D) : R D := toR false (s_singles (startE N_singles ds))

def N_only : List Str := ["change", "start", "end", "found", "first", "rest", "middle", "last"]
def s_only : Ev → Out :=
  (sSeq (sSetT [4, 5] (eCall f_cut (aCons (eVar 0) (aCons (eVar 1) aNil))))
  (sSeq (sSetT [6, 7] (eCall f_cut (aCons (eVar 5) (aCons (eOp dSub (eVar 2) (eVar 1)) aNil))))
  (sSeq (sSet 3 (eCall f_joined (aCons (eCall f_nothing (aCons (eCall f_before (aCons (eVar 4) aNil)) aNil)) (aCons (eVar 6) aNil))))
  (sSeq (sRet (eCall f_joined (aCons (eVar 3) (aCons (eCall f_nothing (aCons (eCall f_before (aCons (eVar 7) aNil)) aNil)) aNil))))
  sNil))))
def f_only (ds : List D) : R D := toR false (s_only (startE N_only ds))

def b_least_cost_0 : Ev → Out :=
  (sSeq (sIf (tCm dEq (eVar 4) (eVar 7)) (sSeq (sApp 2 (xOf (eOp dIx (eVar 5) (eVar 6))))
  sNil) (sSeq (sApp 2 (xOf (eOp dAdd (eInt 1) (eCall dMin2 (aCons (eOp dIx (eVar 5) (eOp dAdd (eVar 6) (eInt 1))) (aCons (eOp dIx (eVar 2) (eVar 6)) aNil))))))
  sNil))
  sNil)
def b_least_cost_1 : Ev → Out :=
  (sSeq (sSet 5 (eVar 2))
  (sSeq (sSet 2 (eLst (aCons (eOp dAdd (eVar 3) (eInt 1)) aNil)))
  (sSeq (sFor (iEs (aCons (eVar 1) aNil)) (tsT [6, 7]) b_least_cost_0)
  sNil)))
def N_least_cost : List Str := ["old", "new", "row", "at", "sign", "last", "there", "other"]
def s_least_cost : Ev → Out :=
  (sSeq (sSet 2 (eCall dListRg (aCons (eOp dAdd (eCall dLen (aCons (eVar 1) aNil)) (eInt 1)) aNil)))
  (sSeq (sFor (iEs (aCons (eVar 0) aNil)) (tsT [3, 4]) b_least_cost_1)
  (sSeq (sRet (eOp dIx (eVar 2) (eNeg (eInt 1))))
  sNil)))
def f_least_cost (ds : List D) : R D := toR false (s_least_cost (startE N_least_cost ds))

def b_least_change_0 : Ev → Out :=
  (sSeq (sIf (tAndF (tCm dNe (eVar 0) (eStr "")) (tAndF (tCm dNe (eVar 1) (eStr "")) (tCm dEq (eOp dIx (eVar 0) (eInt 0)) (eOp dIx (eVar 1) (eInt 0))))) (sSeq (sApp 2 (xOf (eTup (aCons (eStr "keep") (aCons (eStr "") aNil)))))
  (sSeq (sSet 0 (eSl (eVar 0) (oSome (eInt 1)) oNone))
  (sSeq (sSet 1 (eSl (eVar 1) (oSome (eInt 1)) oNone))
  sNil))) (sSeq (sIf (tOrF (tCm dEq (eVar 1) (eStr "")) (tAndF (tCm dNe (eVar 0) (eStr "")) (tCm dLt (eCall f_least_cost (aCons (eSl (eVar 0) (oSome (eInt 1)) oNone) (aCons (eVar 1) aNil))) (eCall f_least_cost (aCons (eVar 0) (aCons (eVar 1) aNil)))))) (sSeq (sApp 2 (xOf (eTup (aCons (eStr "drop") (aCons (eOp dIx (eVar 0) (eInt 0)) aNil)))))
  (sSeq (sSet 0 (eSl (eVar 0) (oSome (eInt 1)) oNone))
  sNil)) (sSeq (sApp 2 (xOf (eTup (aCons (eStr "put") (aCons (eOp dIx (eVar 1) (eInt 0)) aNil)))))
  (sSeq (sSet 1 (eSl (eVar 1) (oSome (eInt 1)) oNone))
  sNil)))
  sNil))
  sNil)
def N_least_change : List Str := ["old", "new", "found"]
def s_least_change : Ev → Out :=
  (sSeq (sSet 2 (eLst aNil))
  (sSeq (sWh (tOrF (tCm dNe (eVar 0) (eStr "")) (tCm dNe (eVar 1) (eStr ""))) b_least_change_0)
  (sSeq (sRet (eCall f_of_units (aCons (eVar 2) aNil)))
  sNil)))
def f_least_change (ds : List D) : R D := toR false (s_least_change (startE N_least_change ds))

def b_apart_0 : Ev → Out :=
  (sSeq (sSet 2 (eOp dAdd (eVar 2) (eInt 1)))
  sNil)
def b_apart_1 : Ev → Out :=
  (sSeq (sSet 3 (eOp dAdd (eVar 3) (eInt 1)))
  sNil)
def N_apart : List Str := ["old", "new", "ahead", "behind", "found", "sign"]
def s_apart : Ev → Out :=
  (sSeq (sSet 2 (eInt 0))
  (sSeq (sWh (tAndF (tCm dLt (eVar 2) (eCall dMin2 (aCons (eCall dLen (aCons (eVar 0) aNil)) (aCons (eCall dLen (aCons (eVar 1) aNil)) aNil)))) (tCm dEq (eOp dIx (eVar 0) (eVar 2)) (eOp dIx (eVar 1) (eVar 2)))) b_apart_0)
  (sSeq (sSet 3 (eInt 0))
  (sSeq (sWh (tAndF (tCm dLt (eVar 3) (eOp dSub (eCall dMin2 (aCons (eCall dLen (aCons (eVar 0) aNil)) (aCons (eCall dLen (aCons (eVar 1) aNil)) aNil))) (eVar 2))) (tCm dEq (eOp dIx (eVar 0) (eOp dSub (eOp dSub (eCall dLen (aCons (eVar 0) aNil)) (eInt 1)) (eVar 3))) (eOp dIx (eVar 1) (eOp dSub (eOp dSub (eCall dLen (aCons (eVar 1) aNil)) (eInt 1)) (eVar 3))))) b_apart_1)
  (sSeq (sSet 4 (eOp dAdd (eOp dMul (eLst (aCons (eTup (aCons (eStr "keep") (aCons (eStr "") aNil))) aNil)) (eVar 2)) (eLc [5] (iSeq (eSl (eVar 0) (oSome (eVar 2)) (oSome (eOp dSub (eCall dLen (aCons (eVar 0) aNil)) (eVar 3))))) (tsN 5) tTrue (eTup (aCons (eStr "drop") (aCons (eVar 5) aNil))))))
  (sSeq (sSet 4 (eOp dAdd (eVar 4) (eLc [5] (iSeq (eSl (eVar 1) (oSome (eVar 2)) (oSome (eOp dSub (eCall dLen (aCons (eVar 1) aNil)) (eVar 3))))) (tsN 5) tTrue (eTup (aCons (eStr "put") (aCons (eVar 5) aNil))))))
  (sSeq (sRet (eCall f_of_units (aCons (eOp dAdd (eVar 4) (eOp dMul (eLst (aCons (eTup (aCons (eStr "keep") (aCons (eStr "") aNil))) aNil)) (eVar 3))) aNil)))
  sNil)))))))
def f_apart (ds : List D) : R D := toR false (s_apart (startE N_apart ds))

def N_alike : List Str := ["one", "other"]
def s_alike : Ev → Out :=
  (sSeq (sRet (eCm dEq (eCall f_form (aCons (eVar 0) aNil)) (eCall f_form (aCons (eVar 1) aNil))))
  sNil)
def f_alike (ds : List D) : R D := toR false (s_alike (startE N_alike ds))

def N_asks_of : List Str := ["change", "word", "sign"]
def s_asks_of : Ev → Out :=
  (sSeq (sRet (eLc [1, 2] (iSeq (eCall f_units_of (aCons (eVar 0) aNil))) (tsT [1, 2]) (tCm dNe (eVar 1) (eStr "put")) (eVar 2)))
  sNil)
def f_asks_of (ds : List D) : R D := toR true (s_asks_of (startE N_asks_of ds))

def b_a_text_0 : Ev → Out :=
  (sSeq (sSet 6 (eIf (tAndF (tCm dEq (eVar 4) (eVar 1)) (tCm dEq (eVar 2) (eStr "a"))) (eStr "b") (eStr "a")))
  (sSeq (sSet 3 (eOp dAdd (eVar 3) (eIf (tCm dNe (eVar 5) (eStr "")) (eVar 5) (eVar 6))))
  sNil))
def N_a_text : List Str := ["asks", "place", "sign", "found", "at", "ask", "other"]
def s_a_text : Ev → Out :=
  (sSeq (sSet 3 (eStr ""))
  (sSeq (sFor (iEn (aCons (eVar 0) aNil)) (tsT [4, 5]) b_a_text_0)
  (sSeq (sRet (eVar 3))
  sNil)))
def f_a_text (ds : List D) : R D := toR false (s_a_text (startE N_a_text ds))

def b_word_of_0 : Ev → Out :=
  (sSeq (sIf (tCm dNe (eVar 3) (eStr "drop")) (sSeq (sApp 1 (xOf (eIf (tCm dEq (eVar 3) (eStr "put")) (eVar 4) (eVar 2))))
  sNil) sNil)
  (sSeq (sSet 2 (eOp dAdd (eVar 2) (eCall dInt (aCons (eCm dNe (eVar 3) (eStr "put")) aNil))))
  sNil))
def N_word_of : List Str := ["change", "found", "place", "word", "sign"]
def s_word_of : Ev → Out :=
  (sSeq (sSet 1 (eLst aNil))
  (sSeq (sSet 2 (eInt 0))
  (sSeq (sFor (iSeq (eCall f_units_of (aCons (eVar 0) aNil))) (tsT [3, 4]) b_word_of_0)
  (sSeq (sRet (eVar 1))
  sNil))))
def f_word_of (ds : List D) : R D := toR false (s_word_of (startE N_word_of ds))

def b_parting_told_0 : Ev → Out :=
  (sSeq (sIf (tCm dNe (eVar 3) (eVar 4)) (sSeq (sIf (tVal (eIsi Ty5.int (eVar 3))) (sSeq (sRet (eCall f_a_text (aCons (eVar 2) (aCons (eVar 3) (aCons (eVar 4) aNil)))))
  sNil) sNil)
  (sSeq (sRet (eCall f_a_text (aCons (eVar 2) (aCons (eIf (tVal (eIsi Ty5.int (eVar 4))) (eVar 4) (eNeg (eInt 1))) (aCons (eVar 3) aNil)))))
  sNil)) sNil)
  sNil)
def N_parting_told : List Str := ["one", "other", "asks", "mine", "yours"]
def s_parting_told : Ev → Out :=
  (sSeq (sSet 2 (eCall f_asks_of (aCons (eVar 0) aNil)))
  (sSeq (sFor (iZp (aCons (eCall f_word_of (aCons (eVar 0) aNil)) (aCons (eCall f_word_of (aCons (eVar 1) aNil)) aNil))) (tsT [3, 4]) b_parting_told_0)
  (sSeq (sRet (eCall f_a_text (aCons (eVar 2) (aCons (eNeg (eInt 1)) (aCons (eStr "") aNil)))))
  sNil)))
def f_parting_told (ds : List D) : R D := toR false (s_parting_told (startE N_parting_told ds))

def b_parting_0 : Ev → Out :=
  (sSeq (sIf (tAndF (tCm dNe (eOp dIx (eVar 5) (eInt 0)) (eOp dIx (eVar 5) (eInt 1))) (tCm dNe (eOp dIx (eVar 5) (eInt 1)) (eStr ""))) (sSeq (sRet (eCall f_a_text (aCons (eVar 2) (aCons (eVar 4) (aCons (eOp dIx (eVar 5) (eInt 1)) aNil)))))
  sNil) sNil)
  (sSeq (sIf (tCm dNe (eOp dIx (eVar 5) (eInt 0)) (eOp dIx (eVar 5) (eInt 1))) (sSeq (sRet (eCall f_a_text (aCons (eVar 3) (aCons (eVar 4) (aCons (eOp dIx (eVar 5) (eInt 0)) aNil)))))
  sNil) sNil)
  sNil))
def N_parting : List Str := ["one", "other", "mine", "yours", "place", "asks"]
def s_parting : Ev → Out :=
  (sSeq (sIf (tVal (eCall f_alike (aCons (eVar 0) (aCons (eVar 1) aNil)))) (sSeq (sRet eNon)
  sNil) sNil)
  (sSeq (sSet 2 (eCall f_asks_of (aCons (eVar 0) aNil)))
  (sSeq (sSet 3 (eCall f_asks_of (aCons (eVar 1) aNil)))
  (sSeq (sIf (tCm dNe (eCall dLen (aCons (eVar 2) aNil)) (eCall dLen (aCons (eVar 3) aNil))) (sSeq (sRet (eCall f_a_text (aCons (eVar 2) (aCons (eNeg (eInt 1)) (aCons (eStr "") aNil)))))
  sNil) sNil)
  (sSeq (sFor (iEz (aCons (eVar 2) (aCons (eVar 3) aNil))) (tsT [4, 5]) b_parting_0)
  (sSeq (sRet (eCall f_parting_told (aCons (eVar 0) (aCons (eVar 1) aNil))))
  sNil))))))
def f_parting (ds : List D) : R D := toR false (s_parting (startE N_parting ds))

def N_within : List Str := ["one", "other", "asks", "told", "mine", "place", "ask", "sign"]
def s_within : Ev → Out :=
  (sSeq (sIf (tCm dNe (eCall f_before (aCons (eVar 0) aNil)) (eCall f_before (aCons (eVar 1) aNil))) (sSeq (sRet (eBl false))
  sNil) sNil)
  (sSeq (sSet 2 (eCall f_asks_of (aCons (eVar 0) aNil)))
  (sSeq (sIf (tCm dNe (eLc [5, 6] (iEn (aCons (eCall f_asks_of (aCons (eVar 1) aNil)) aNil)) (tsT [5, 6]) (tCm dNotIn (eVar 6) (eTup (aCons (eStr "") (aCons (eOp dIx (eVar 2) (eVar 5)) aNil)))) (eVar 5)) (eLst aNil)) (sSeq (sRet (eBl false))
  sNil) sNil)
  (sSeq (sSet 3 (eLc [7] (iSeq (eCall f_word_of (aCons (eVar 1) aNil))) (tsN 7) tTrue (eIf (tAndF (tVal (eIsi Ty5.int (eVar 7))) (tCm dNe (eOp dIx (eVar 2) (eVar 7)) (eStr ""))) (eOp dIx (eVar 2) (eVar 7)) (eVar 7))))
  (sSeq (sSet 4 (eLc [7] (iSeq (eCall f_word_of (aCons (eVar 0) aNil))) (tsN 7) tTrue (eIf (tAndF (tVal (eIsi Ty5.int (eVar 7))) (tCm dNe (eOp dIx (eVar 2) (eVar 7)) (eStr ""))) (eOp dIx (eVar 2) (eVar 7)) (eVar 7))))
  (sSeq (sRet (eCm dEq (eVar 3) (eVar 4)))
  sNil))))))
def f_within (ds : List D) : R D := toR false (s_within (startE N_within ds))

def b_all_fit_0 : Ev → Out :=
  (sSeq (sIf (tAndF (tCm dNe (eVar 5) (eStr "")) (tCm dNotIn (eOp dIx (eVar 1) (eVar 4)) (eTup (aCons (eStr "") (aCons (eVar 5) aNil))))) (sSeq (sRet eNon)
  sNil) sNil)
  (sSeq (sSetI 1 (eVar 4) (eIf (tCm dNe (eVar 5) (eStr "")) (eVar 5) (eOp dIx (eVar 1) (eVar 4))))
  sNil))
def b_all_fit_1 : Ev → Out :=
  (sSeq (sSet 3 (eCall f_asks_of (aCons (eVar 2) aNil)))
  (sSeq (sIf (tCm dNe (eCall dLen (aCons (eVar 3) aNil)) (eCall dLen (aCons (eVar 1) aNil))) (sSeq (sRet eNon)
  sNil) sNil)
  (sSeq (sFor (iEn (aCons (eVar 3) aNil)) (tsT [4, 5]) b_all_fit_0)
  sNil)))
def N_all_fit : List Str := ["changes", "found", "change", "asks", "place", "ask"]
def s_all_fit : Ev → Out :=
  (sSeq (sSet 1 (eCall f_asks_of (aCons (eOp dIx (eVar 0) (eInt 0)) aNil)))
  (sSeq (sFor (iSeq (eSl (eVar 0) (oSome (eInt 1)) oNone)) (tsN 2) b_all_fit_1)
  (sSeq (sRet (eMs dJoin (eStr "") (eLc [5] (iSeq (eVar 1)) (tsN 5) tTrue (eIf (tCm dNe (eVar 5) (eStr "")) (eVar 5) (eOp dIx (eStr "abcdefghijklmnopqrstuvwxyz") (eInt 0))))))
  sNil)))
def f_all_fit (ds : List D) : R D := toR false (s_all_fit (startE N_all_fit ds))

def N_change_text : List Str := ["change", "word", "what"]
def s_change_text : Ev → Out :=
  (sSeq (sRet (eMs dJoin (eStr "/") (eLc [1, 2] (iSeq (eVar 0)) (tsT [1, 2]) tTrue (eOp dAdd (eOp (dGetW "HEADS" [(['k', 'e', 'e', 'p'], ['=']), (['p', 'u', 't'], ['+']), (['d', 'r', 'o', 'p'], ['-'])]) (eFn "HEADS") (eVar 1)) (eCall dStrOf (aCons (eVar 2) aNil))))))
  sNil)
def f_change_text (ds : List D) : R D := toR false (s_change_text (startE N_change_text ds))

def N_part_in : List Str := ["text", "word", "sign"]
def s_part_in : Ev → Out :=
  (sSeq (sIf (tOrF (tCm (dNotInW "WORDS" [(['='], ['k', 'e', 'e', 'p']), (['+'], ['p', 'u', 't']), (['-'], ['d', 'r', 'o', 'p'])]) (eSl (eVar 0) oNone (oSome (eInt 1))) (eFn "WORDS")) (tCm dEq (eVar 0) (eStr ""))) (sSeq (sRaise "NoText")
  sNil) sNil)
  (sSeq (sSet 1 (eOp (dGetW "WORDS" [(['='], ['k', 'e', 'e', 'p']), (['+'], ['p', 'u', 't']), (['-'], ['d', 'r', 'o', 'p'])]) (eFn "WORDS") (eSl (eVar 0) oNone (oSome (eInt 1)))))
  (sSeq (sIf (tCm dNe (eVar 1) (eStr "keep")) (sSeq (sRet (eTup (aCons (eVar 1) (aCons (eSl (eVar 0) (oSome (eInt 1)) oNone) aNil))))
  sNil) sNil)
  (sSeq (sIf (tOrF (tNotF (tCh dLe dLe (eInt 2) (eCall dLen (aCons (eVar 0) aNil)) (eInt 3))) (tNotF (tVal (eCall dAll (aCons (eLc [2] (iSeq (eSl (eVar 0) (oSome (eInt 1)) oNone)) (tsN 2) tTrue (eCm dIn (eVar 2) (eStr "0123456789"))) aNil))))) (sSeq (sRaise "NoText")
  sNil) sNil)
  (sSeq (sRet (eTup (aCons (eVar 1) (aCons (eCall dIntT (aCons (eSl (eVar 0) (oSome (eInt 1)) oNone) aNil)) aNil))))
  sNil)))))
def f_part_in (ds : List D) : R D := toR false (s_part_in (startE N_part_in ds))

def N_read_change : List Str := ["text", "found", "part"]
def s_read_change : Ev → Out :=
  (sSeq (sSet 1 (eIf (tCm dEq (eVar 0) (eStr "")) (eTup aNil) (eCall dTuple (aCons (eLc [2] (iSeq (eMs dSplit (eVar 0) (eStr "/"))) (tsN 2) tTrue (eCall f_part_in (aCons (eVar 2) aNil))) aNil))))
  (sSeq (sIf (tOrF (tNotF (tVal (eCall f_is_change (aCons (eVar 1) aNil)))) (tCm dNe (eCall f_change_text (aCons (eVar 1) aNil)) (eVar 0))) (sSeq (sRaise "NoText")
  sNil) sNil)
  (sSeq (sRet (eVar 1))
  sNil)))
def f_read_change (ds : List D) : R D := toR false (s_read_change (startE N_read_change ds))

def N_rows_text : List Str := ["rows", "change"]
def s_rows_text : Ev → Out :=
  (sSeq (sRet (eMs dJoin (eStr "") (eLc [1] (iSeq (eVar 0)) (tsN 1) tTrue (eOp dAdd (eCall f_change_text (aCons (eVar 1) aNil)) (eStr "\n")))))
  sNil)
def f_rows_text (ds : List D) : R D := toR false (s_rows_text (startE N_rows_text ds))

def N_read_rows : List Str := ["text", "found", "line"]
def s_read_rows : Ev → Out :=
  (sSeq (sSet 1 (eLc [2] (iSeq (eSl (eMs dSplit (eVar 0) (eStr "\n")) oNone (oSome (eNeg (eInt 1))))) (tsN 2) tTrue (eCall f_read_change (aCons (eVar 2) aNil))))
  (sSeq (sIf (tCm dNe (eCall f_rows_text (aCons (eVar 1) aNil)) (eVar 0)) (sSeq (sRaise "NoText")
  sNil) sNil)
  (sSeq (sRet (eVar 1))
  sNil)))
def f_read_rows (ds : List D) : R D := toR false (s_read_rows (startE N_read_rows ds))

def b_gone_over_0 : Ev → Out :=
  (sSeq (sIf (tCm dEq (eVar 9) (eStr "put")) (sSeq (sApp 7 (xOf (eVar 4)))
  (sSeq (sSet 8 (eOp dAdd (eVar 8) (eVar 10)))
  sNil)) (sSeq (sIf (tCm dEq (eVar 9) (eStr "keep")) (sSeq (sApp 7 (xOf (eOp dIx (eVar 2) (eVar 6))))
  (sSeq (sSet 8 (eOp dAdd (eVar 8) (eOp dIx (eVar 0) (eVar 6))))
  sNil)) (sSeq (sApp 3 (xOf (eOp dIx (eVar 2) (eVar 6))))
  sNil))
  (sSeq (sSet 6 (eOp dAdd (eVar 6) (eInt 1)))
  sNil)))
  sNil)
def b_gone_over_1 : Ev → Out :=
  (sSeq (sIf (tNotF (tVal (eCall f_fits (aCons (eVar 5) (aCons (eVar 0) aNil))))) (sSeq (sRaise "NoFit")
  sNil) sNil)
  (sSeq (sSet 6 (eInt 0))
  (sSeq (sSet 7 (eLst aNil))
  (sSeq (sSet 8 (eStr ""))
  (sSeq (sFor (iSeq (eCall f_units_of (aCons (eVar 5) aNil))) (tsT [9, 10]) b_gone_over_0)
  (sSeq (sSet 2 (eVar 7))
  (sSeq (sSet 0 (eVar 8))
  sNil)))))))
def N_gone_over : List Str := ["text", "rows", "marks", "gone", "own", "change", "place", "fresh", "new", "word", "sign"]
def s_gone_over : Ev → Out :=
  (sSeq (sSet 2 (eOp dMul (eLst (aCons eNon aNil)) (eCall dLen (aCons (eVar 0) aNil))))
  (sSeq (sSet 3 (eLst aNil))
  (sSeq (sFor (iSeq (eVar 1)) (tsT [4, 5]) b_gone_over_1)
  (sSeq (sRet (eTup (aCons (eVar 2) (aCons (eVar 3) (aCons (eVar 0) aNil)))))
  sNil))))
def f_gone_over (ds : List D) : R D := toR false (s_gone_over (startE N_gone_over ds))

def N_counted : List Str := ["names", "some", "name"]
def s_counted : Ev → Out :=
  (sSeq (sSet 1 (eCall dSortSet2 (aCons (eLc [2] (iSeq (eVar 0)) (tsN 2) (tCm dNotN (eVar 2) eNon) (eVar 2)) aNil)))
  (sSeq (sRet (eLc [2] (iSeq (eVar 1)) (tsN 2) tTrue (eTup (aCons (eVar 2) (aCons (eLm dCount (eVar 0) (eVar 2)) aNil)))))
  sNil))
def f_counted (ds : List D) : R D := toR false (s_counted (startE N_counted ds))

def N_owners : List Str := ["text", "rows"]
def s_owners : Ev → Out :=
  (sSeq (sRet (eOp dIx (eCall f_gone_over (aCons (eVar 0) (aCons (eVar 1) aNil))) (eInt 0)))
  sNil)
def f_owners (ds : List D) : R D := toR false (s_owners (startE N_owners ds))

def N_shares : List Str := ["text", "rows"]
def s_shares : Ev → Out :=
  (sSeq (sRet (eCall f_counted (aCons (eOp dIx (eCall f_gone_over (aCons (eVar 0) (aCons (eVar 1) aNil))) (eInt 0)) aNil)))
  sNil)
def f_shares (ds : List D) : R D := toR false (s_shares (startE N_shares ds))

def N_lost : List Str := ["text", "rows"]
def s_lost : Ev → Out :=
  (sSeq (sRet (eCall f_counted (aCons (eOp dIx (eCall f_gone_over (aCons (eVar 0) (aCons (eVar 1) aNil))) (eInt 1)) aNil)))
  sNil)
def f_lost (ds : List D) : R D := toR false (s_lost (startE N_lost ds))

def b_squeezed_0 : Ev → Out :=
  (sSeq (sIf (tAndF (tCm dNe (eVar 1) (eLst aNil)) (tCm dEq (eOp dIx (eOp dIx (eVar 1) (eNeg (eInt 1))) (eInt 0)) (eVar 2))) (sSeq (sSet 3 (eCall f_then (aCons (eOp dIx (eOp dIx (eVar 1) (eNeg (eInt 1))) (eInt 1)) (aCons (eVar 3) aNil))))
  (sSeq (sSet 1 (eAsL (eSl (eVar 1) oNone (oSome (eNeg (eInt 1))))))
  sNil)) sNil)
  (sSeq (sIf (tCm dGt (eCall f_cost (aCons (eVar 3) aNil)) (eInt 0)) (sSeq (sApp 1 (xOf (eTup (aCons (eVar 2) (aCons (eCall f_form (aCons (eVar 3) aNil)) aNil)))))
  sNil) sNil)
  sNil))
def N_squeezed : List Str := ["rows", "found", "own", "change"]
def s_squeezed : Ev → Out :=
  (sSeq (sSet 1 (eLst aNil))
  (sSeq (sFor (iSeq (eVar 0)) (tsT [2, 3]) b_squeezed_0)
  (sSeq (sRet (eVar 1))
  sNil)))
def f_squeezed (ds : List D) : R D := toR false (s_squeezed (startE N_squeezed ds))

def N_is_own : List Str := ["thing", "sign"]
def s_is_own : Ev → Out :=
  (sSeq (sRet (eAnd (eCh dLe dLe (eInt 1) (eCall dLen (aCons (eVar 0) aNil)) (eInt 6)) (eCall dAll (aCons (eLc [1] (iSeq (eVar 0)) (tsN 1) tTrue (eCm dIn (eVar 1) (eStr "abcdefghijklmnopqrstuvwxyz"))) aNil))))
  sNil)
def f_is_own (ds : List D) : R D := toR false (s_is_own (startE N_is_own ds))

def N_owned_text : List Str := ["rows", "own", "change"]
def s_owned_text : Ev → Out :=
  (sSeq (sRet (eMs dJoin (eStr "") (eLc [1, 2] (iSeq (eVar 0)) (tsT [1, 2]) tTrue (eOp dAdd (eOp dAdd (eOp dAdd (eVar 1) (eStr ": ")) (eCall f_change_text (aCons (eVar 2) aNil))) (eStr "\n")))))
  sNil)
def f_owned_text (ds : List D) : R D := toR false (s_owned_text (startE N_owned_text ds))

def b_read_owned_0 : Ev → Out :=
  (sSeq (sSet 3 (eMs dSplit (eVar 2) (eStr ": ")))
  (sSeq (sIf (tOrF (tCm dNe (eCall dLen (aCons (eVar 3) aNil)) (eInt 2)) (tNotF (tVal (eCall f_is_own (aCons (eOp dIx (eVar 3) (eInt 0)) aNil))))) (sSeq (sRaise "NoText")
  sNil) sNil)
  (sSeq (sApp 1 (xOf (eTup (aCons (eOp dIx (eVar 3) (eInt 0)) (aCons (eCall f_read_change (aCons (eOp dIx (eVar 3) (eInt 1)) aNil)) aNil)))))
  sNil)))
def N_read_owned : List Str := ["text", "found", "line", "words"]
def s_read_owned : Ev → Out :=
  (sSeq (sSet 1 (eLst aNil))
  (sSeq (sFor (iSeq (eSl (eMs dSplit (eVar 0) (eStr "\n")) oNone (oSome (eNeg (eInt 1))))) (tsN 2) b_read_owned_0)
  (sSeq (sIf (tCm dNe (eCall f_owned_text (aCons (eVar 1) aNil)) (eVar 0)) (sSeq (sRaise "NoText")
  sNil) sNil)
  (sSeq (sRet (eVar 1))
  sNil))))
def f_read_owned (ds : List D) : R D := toR false (s_read_owned (startE N_read_owned ds))

def b__law_gaps_0 : Ev → Out :=
  (sSeq (sIf (tCm dEq (eVar 4) (eStr "put")) (sSeq (sSet 3 (eOp dAdd (eVar 3) (eVar 5)))
  sNil) (sSeq (sIf (tCm dEq (eVar 4) (eStr "drop")) (sSeq (sSet 1 (eOp dAdd (eVar 1) (eCall dList (aCons (eVar 5) aNil))))
  (sSeq (sSet 2 (eAsL (eOp dAdd (eVar 2) (eOp dMul (eLst (aCons (eStr "") aNil)) (eCall dLen (aCons (eVar 5) aNil))))))
  sNil)) (sSeq (sSetI 2 (eNeg (eInt 1)) (eOp dAdd (eOp dIx (eVar 2) (eNeg (eInt 1))) (eVar 3)))
  (sSeq (sSet 3 (eStr ""))
  (sSeq (sSet 6 (eIf (tCm dEq (eVar 4) (eStr "keep")) (eVar 5) (eInt 0)))
  (sSeq (sSet 1 (eOp dAdd (eVar 1) (eOp dMul (eLst (aCons (eStr "") aNil)) (eVar 6))))
  (sSeq (sSet 2 (eAsL (eOp dAdd (eVar 2) (eOp dMul (eLst (aCons (eStr "") aNil)) (eVar 6)))))
  sNil))))))
  sNil))
  sNil)
def N__law_gaps : List Str := ["_law_change_here", "_law_asks", "_law_puts", "_law_late", "_law_word", "_law_what", "_law_many"]
def s__law_gaps : Ev → Out :=
  (sSeq (sSet 1 (eLst aNil))
  (sSeq (sSet 2 (eLst (aCons (eStr "") aNil)))
  (sSeq (sSet 3 (eStr ""))
  (sSeq (sFor (iSeq (eOp dAdd (eVar 0) (eTup (aCons (eTup (aCons (eStr "end") (aCons (eStr "") aNil))) aNil)))) (tsT [4, 5]) b__law_gaps_0)
  (sSeq (sRet (eTup (aCons (eVar 1) (aCons (eVar 2) aNil))))
  sNil)))))
def f__law_gaps (ds : List D) : R D := toR false (s__law_gaps (startE N__law_gaps ds))

def b__law_both_0 : Ev → Out :=
  (sSeq (sSet 8 (eLst (aCons (eOp dIx (eOp dIx (eVar 4) (eInt 1)) (eVar 7)) (aCons (eOp dIx (eOp dIx (eVar 5) (eInt 1)) (eVar 7)) aNil))))
  (sSeq (sSet 6 (eOp dAdd (eVar 6) (eMs dJoin (eStr "") (eIf (tVal (eVar 3)) (eVar 8) (eRevL (eVar 8))))))
  (sSeq (sIf (tAndF (tCm dLt (eVar 7) (eCall dLen (aCons (eVar 0) aNil))) (tAndF (tCm dEq (eOp dIx (eOp dIx (eVar 4) (eInt 0)) (eVar 7)) (eStr "")) (tCm dEq (eOp dIx (eOp dIx (eVar 5) (eInt 0)) (eVar 7)) (eStr "")))) (sSeq (sSet 6 (eOp dAdd (eVar 6) (eOp dIx (eVar 0) (eVar 7))))
  sNil) sNil)
  sNil)))
def N__law_both : List Str := ["_law_text_here", "_law_one", "_law_other", "_law_is_first", "_law_mine", "_law_yours", "_law_found", "_law_at", "_law_new"]
def s__law_both : Ev → Out :=
  (sSeq (sSet 4 (eCall f__law_gaps (aCons (eVar 1) aNil)))
  (sSeq (sSet 5 (eCall f__law_gaps (aCons (eVar 2) aNil)))
  (sSeq (sSet 6 (eStr ""))
  (sSeq (sFor (iRg1 (aCons (eOp dAdd (eCall dLen (aCons (eVar 0) aNil)) (eInt 1)) aNil)) (tsN 7) b__law_both_0)
  (sSeq (sRet (eVar 6))
  sNil)))))
def f__law_both (ds : List D) : R D := toR false (s__law_both (startE N__law_both ds))

def N__law_cell : List Str := ["_law_script", "_law_k"]
def s__law_cell : Ev → Out :=
  (sSeq (sIf (tCm dEq (eVar 0) (eLst aNil)) (sSeq (sRet (eOp dMul (eInt 7) (eVar 1)))
  sNil) sNil)
  (sSeq (sRet (eOp dAdd (eOp dIx (eVar 0) (eOp dMod (eVar 1) (eCall dLen (aCons (eVar 0) aNil)))) (eOp dMul (eInt 6553) (eOp dFdiv (eVar 1) (eCall dLen (aCons (eVar 0) aNil))))))
  sNil))
def f__law_cell (ds : List D) : R D := toR false (s__law_cell (startE N__law_cell ds))

def N__law_drawn : List Str := ["_law_script", "_law_k", "_law_many", "_law_cell_here"]
def s__law_drawn : Ev → Out :=
  (sSeq (sSet 3 (eOp dMod (eOp dAdd (eOp dMul (eOp dMod (eCall f__law_cell (aCons (eVar 0) (aCons (eVar 1) aNil))) (eInt 2147483563)) (eInt 69069)) (eOp dMul (eInt 104723) (eOp dAdd (eVar 1) (eInt 1)))) (eInt 2147483563)))
  (sSeq (sSet 3 (eOp dMod (eOp dAdd (eOp dMul (eVar 3) (eVar 3)) (eOp dFdiv (eVar 3) (eInt 3))) (eInt 2147483399)))
  (sSeq (sRet (eOp dMod (eOp dFdiv (eOp dMod (eOp dAdd (eOp dMul (eVar 3) (eVar 3)) (eOp dFdiv (eVar 3) (eInt 7))) (eInt 2147483647)) (eInt 11)) (eVar 2)))
  sNil)))
def f__law_drawn (ds : List D) : R D := toR false (s__law_drawn (startE N__law_drawn ds))

def b__law_change_0 : Ev → Out :=
  (sSeq (sIf (tCm dEq (eCall f__law_drawn (aCons (eVar 0) (aCons (eOp dAdd (eVar 1) (eOp dMul (eInt 4) (eVar 4))) (aCons (eInt 4) aNil)))) (eInt 0)) (sSeq (sSet 5 (eOp dMul (eOp dIx (eStr "abz") (eCall f__law_drawn (aCons (eVar 0) (aCons (eOp dAdd (eOp dAdd (eVar 1) (eOp dMul (eInt 4) (eVar 4))) (eInt 1)) (aCons (eInt 3) aNil))))) (eOp dAdd (eInt 1) (eCall f__law_drawn (aCons (eVar 0) (aCons (eOp dAdd (eOp dAdd (eVar 1) (eOp dMul (eInt 4) (eVar 4))) (eInt 2)) (aCons (eInt 2) aNil)))))))
  (sSeq (sSet 3 (eOp dAdd (eVar 3) (eTup (aCons (eTup (aCons (eStr "put") (aCons (eVar 5) aNil))) aNil))))
  sNil)) sNil)
  (sSeq (sIf (tCm dLt (eVar 4) (eCall dLen (aCons (eVar 2) aNil))) (sSeq (sSet 6 (eCm dGt (eCall f__law_drawn (aCons (eVar 0) (aCons (eOp dAdd (eOp dAdd (eVar 1) (eOp dMul (eInt 4) (eVar 4))) (eInt 3)) (aCons (eInt 3) aNil)))) (eInt 0)))
  (sSeq (sSet 3 (eOp dAdd (eVar 3) (eTup (aCons (eIf (tVal (eVar 6)) (eTup (aCons (eStr "keep") (aCons (eInt 1) aNil))) (eTup (aCons (eStr "drop") (aCons (eOp dIx (eVar 2) (eVar 4)) aNil)))) aNil))))
  sNil)) sNil)
  sNil))
def N__law_change : List Str := ["_law_script", "_law_at", "_law_text_here", "_law_found", "_law_k", "_law_new", "_law_is_kept"]
def s__law_change : Ev → Out :=
  (sSeq (sSet 3 (eTup aNil))
  (sSeq (sFor (iRg1 (aCons (eOp dAdd (eCall dLen (aCons (eVar 2) aNil)) (eInt 1)) aNil)) (tsN 4) b__law_change_0)
  (sSeq (sRet (eVar 3))
  sNil)))
def f__law_change (ds : List D) : R D := toR false (s__law_change (startE N__law_change ds))

def b__law_is_form_0 : Ev → Out :=
  (sSeq (sIf (tOrF (tCm dEq (eVar 2) (eVar 3)) (tAndF (tCm dEq (eVar 2) (eStr "put")) (tCm dEq (eVar 3) (eStr "drop")))) (sSeq (sRet (eBl false))
  sNil) sNil)
  sNil)
def N__law_is_form : List Str := ["_law_change_here", "_law_words", "_law_one", "_law_other", "_law_part"]
def s__law_is_form : Ev → Out :=
  (sSeq (sSet 1 (eLc [4] (iSeq (eVar 0)) (tsN 4) tTrue (eOp dIx (eVar 4) (eInt 0))))
  (sSeq (sFor (iZp (aCons (eVar 1) (aCons (eSl (eVar 1) (oSome (eInt 1)) oNone) aNil))) (tsT [2, 3]) b__law_is_form_0)
  (sSeq (sRet (eAnd (eIsi Ty5.tuple (eVar 0)) (eCm dEq (eLc [4] (iSeq (eVar 0)) (tsN 4) (tCm dIn (eOp dIx (eVar 4) (eInt 1)) (eTup (aCons (eStr "") (aCons (eInt 0) aNil)))) (eVar 4)) (eLst aNil))))
  sNil)))
def f__law_is_form (ds : List D) : R D := toR false (s__law_is_form (startE N__law_is_form ds))

def N__law_long : List Str := ["_law_script", "_law_at", "_law_text_here"]
def s__law_long : Ev → Out :=
  (sSeq (sRet (eOp dAdd (eCall f__law_change (aCons (eVar 0) (aCons (eVar 1) (aCons (eSl (eVar 2) oNone (oSome (eInt 8))) aNil)))) (eOp dMul (eTup (aCons (eTup (aCons (eStr "keep") (aCons (eInt 1) aNil))) aNil)) (eCall dMax2 (aCons (eInt 0) (aCons (eOp dSub (eCall dLen (aCons (eVar 2) aNil)) (eInt 8)) aNil))))))
  sNil)
def f__law_long (ds : List D) : R D := toR false (s__law_long (startE N__law_long ds))

def b__law_made_0 : Ev → Out :=
  (sSeq (sIf (tCm dEq (eVar 4) (eStr "put")) (sSeq (sSet 3 (eOp dAdd (eVar 3) (eVar 5)))
  sNil) (sSeq (sIf (tCm dEq (eVar 4) (eStr "drop")) (sSeq (sIf (tCm dNe (eSl (eVar 1) (oSome (eVar 2)) (oSome (eOp dAdd (eVar 2) (eCall dLen (aCons (eVar 5) aNil))))) (eVar 5)) (sSeq (sRet eNon)
  sNil) sNil)
  (sSeq (sSet 2 (eOp dAdd (eVar 2) (eCall dLen (aCons (eVar 5) aNil))))
  sNil)) (sSeq (sSet 3 (eOp dAdd (eVar 3) (eSl (eVar 1) (oSome (eVar 2)) (oSome (eOp dAdd (eVar 2) (eVar 5))))))
  (sSeq (sSet 2 (eOp dAdd (eVar 2) (eVar 5)))
  sNil)))
  sNil))
  sNil)
def N__law_made : List Str := ["_law_change_here", "_law_text_here", "_law_place", "_law_found", "_law_word", "_law_what"]
def s__law_made : Ev → Out :=
  (sSeq (sSet 2 (eInt 0))
  (sSeq (sSet 3 (eStr ""))
  (sSeq (sFor (iSeq (eVar 0)) (tsT [4, 5]) b__law_made_0)
  (sSeq (sRet (eIf (tCm dEq (eVar 2) (eCall dLen (aCons (eVar 1) aNil))) (eVar 3) eNon))
  sNil))))
def f__law_made (ds : List D) : R D := toR false (s__law_made (startE N__law_made ds))

def b__law_marks_0 : Ev → Out :=
  (sSeq (sIf (tCm dEq (eVar 8) (eStr "put")) (sSeq (sSet 7 (eOp dAdd (eVar 7) (eLc [11] (iSeq (eVar 9)) (tsN 11) tTrue (eTup (aCons (eVar 11) (aCons (eVar 4) aNil))))))
  sNil) (sSeq (sSet 10 (eIf (tCm dEq (eVar 8) (eStr "keep")) (eVar 9) (eCall dLen (aCons (eVar 9) aNil))))
  (sSeq (sIf (tCm dEq (eVar 8) (eStr "keep")) (sSeq (sSet 7 (eOp dAdd (eVar 7) (eSl (eVar 2) (oSome (eVar 6)) (oSome (eOp dAdd (eVar 6) (eVar 10))))))
  sNil) (sSeq (sSet 3 (eOp dAdd (eVar 3) (eSl (eVar 2) (oSome (eVar 6)) (oSome (eOp dAdd (eVar 6) (eVar 10))))))
  sNil))
  (sSeq (sSet 6 (eOp dAdd (eVar 6) (eVar 10)))
  sNil))))
  sNil)
def b__law_marks_1 : Ev → Out :=
  (sSeq (sSet 6 (eInt 0))
  (sSeq (sSet 7 (eLst aNil))
  (sSeq (sFor (iSeq (eVar 5)) (tsT [8, 9]) b__law_marks_0)
  (sSeq (sSet 2 (eVar 7))
  sNil))))
def N__law_marks : List Str := ["_law_text_here", "_law_rows_here", "_law_here", "_law_gone", "_law_own", "_law_change_here", "_law_place", "_law_fresh", "_law_word", "_law_what", "_law_many", "_law_sign"]
def s__law_marks : Ev → Out :=
  (sSeq (sSet 2 (eLc [11] (iSeq (eVar 0)) (tsN 11) tTrue (eTup (aCons (eVar 11) (aCons eNon aNil)))))
  (sSeq (sSet 3 (eLst aNil))
  (sSeq (sFor (iSeq (eVar 1)) (tsT [4, 5]) b__law_marks_1)
  (sSeq (sRet (eTup (aCons (eLc [11, 4] (iSeq (eVar 2)) (tsT [11, 4]) tTrue (eVar 4)) (aCons (eLc [11, 4] (iSeq (eVar 3)) (tsT [11, 4]) tTrue (eVar 4)) (aCons (eMs dJoin (eStr "") (eLc [11, 4] (iSeq (eVar 2)) (tsT [11, 4]) tTrue (eVar 11))) aNil)))))
  sNil))))
def f__law_marks (ds : List D) : R D := toR false (s__law_marks (startE N__law_marks ds))

def N__law_small : List Str := ["_law_script", "_law_at", "_law_text_here", "_law_place", "_law_here", "_law_rest"]
def s__law_small : Ev → Out :=
  (sSeq (sIf (tCm dEq (eCall f__law_drawn (aCons (eVar 0) (aCons (eOp dAdd (eVar 1) (eInt 60)) (aCons (eInt 5) aNil)))) (eInt 0)) (sSeq (sRet (eIf (tCm dNe (eVar 2) (eStr "")) (eTup (aCons (eTup (aCons (eStr "keep") (aCons (eCall dLen (aCons (eVar 2) aNil)) aNil))) aNil)) (eTup aNil)))
  sNil) sNil)
  (sSeq (sIf (tCm dLt (eCall dLen (aCons (eVar 2) aNil)) (eInt 7)) (sSeq (sRet (eCall f__law_change (aCons (eVar 0) (aCons (eVar 1) (aCons (eVar 2) aNil)))))
  sNil) sNil)
  (sSeq (sSet 3 (eCall f__law_drawn (aCons (eVar 0) (aCons (eOp dAdd (eVar 1) (eInt 61)) (aCons (eOp dSub (eCall dLen (aCons (eVar 2) aNil)) (eInt 3)) aNil)))))
  (sSeq (sSet 4 (eIf (tCm dGt (eVar 3) (eInt 0)) (eTup (aCons (eTup (aCons (eStr "keep") (aCons (eVar 3) aNil))) aNil)) (eTup aNil)))
  (sSeq (sSet 5 (eOp dSub (eOp dSub (eCall dLen (aCons (eVar 2) aNil)) (eVar 3)) (eInt 3)))
  (sSeq (sRet (eOp dAdd (eOp dAdd (eVar 4) (eCall f__law_change (aCons (eVar 0) (aCons (eVar 1) (aCons (eSl (eVar 2) (oSome (eVar 3)) (oSome (eOp dAdd (eVar 3) (eInt 3)))) aNil))))) (eIf (tCm dGt (eVar 5) (eInt 0)) (eTup (aCons (eTup (aCons (eStr "keep") (aCons (eVar 5) aNil))) aNil)) (eTup aNil))))
  sNil))))))
def f__law_small (ds : List D) : R D := toR false (s__law_small (startE N__law_small ds))

def b__law_rows_0 : Ev → Out :=
  (sSeq (sSet 6 (eOp dIx (eLst (aCons (eStr "ann") (aCons (eStr "bo") (aCons (eStr "ann") (aCons (eStr "c") aNil))))) (eCall f__law_drawn (aCons (eVar 0) (aCons (eOp dAdd (eOp dAdd (eVar 1) (eInt 1)) (eOp dMul (eInt 70) (eVar 5))) (aCons (eInt 4) aNil))))))
  (sSeq (sSet 7 (eCall f__law_small (aCons (eVar 0) (aCons (eOp dAdd (eOp dAdd (eVar 1) (eInt 2)) (eOp dMul (eInt 70) (eVar 5))) (aCons (eVar 2) aNil)))))
  (sSeq (sSet 2 (eCall f__law_made (aCons (eVar 7) (aCons (eVar 2) aNil))))
  (sSeq (sApp 4 (xOf (eTup (aCons (eVar 6) (aCons (eVar 7) aNil)))))
  sNil))))
def N__law_rows : List Str := ["_law_script", "_law_at", "_law_text_here", "_law_most", "_law_found", "_law_k", "_law_own", "_law_change_here"]
def s__law_rows : Ev → Out :=
  (sSeq (sSet 4 (eLst aNil))
  (sSeq (sFor (iRg1 (aCons (eCall f__law_drawn (aCons (eVar 0) (aCons (eVar 1) (aCons (eOp dAdd (eVar 3) (eInt 1)) aNil)))) aNil)) (tsN 5) b__law_rows_0)
  (sSeq (sRet (eVar 4))
  sNil)))
def f__law_rows (ds : List D) : R D := toR false (s__law_rows (startE N__law_rows ds))

def b__law_sense_0 : Ev → Out :=
  (sSeq (sIf (tCm dEq (eVar 3) (eStr "keep")) (sSeq (sSet 2 (eOp dAdd (eVar 2) (eCall dListRg (aCons (eCall dLen (aCons (eVar 1) aNil)) (aCons (eOp dAdd (eCall dLen (aCons (eVar 1) aNil)) (eVar 4)) aNil)))))
  (sSeq (sSet 1 (eOp dAdd (eVar 1) (eOp dMul (eLst (aCons (eStr "") aNil)) (eVar 4))))
  sNil)) (sSeq (sIf (tCm dEq (eVar 3) (eStr "drop")) (sSeq (sSet 1 (eOp dAdd (eVar 1) (eCall dList (aCons (eVar 4) aNil))))
  sNil) (sSeq (sSet 2 (eOp dAdd (eVar 2) (eCall dList (aCons (eVar 4) aNil))))
  sNil))
  sNil))
  sNil)
def N__law_sense : List Str := ["_law_change_here", "_law_asks", "_law_told", "_law_word", "_law_what"]
def s__law_sense : Ev → Out :=
  (sSeq (sSet 1 (eLst aNil))
  (sSeq (sSet 2 (eLst aNil))
  (sSeq (sFor (iSeq (eVar 0)) (tsT [3, 4]) b__law_sense_0)
  (sSeq (sRet (eTup (aCons (eVar 1) (aCons (eVar 2) aNil))))
  sNil))))
def f__law_sense (ds : List D) : R D := toR false (s__law_sense (startE N__law_sense ds))

def N__law_text : List Str := ["_law_script", "_law_at", "_law_most", "_law_k"]
def s__law_text : Ev → Out :=
  (sSeq (sRet (eMs dJoin (eStr "") (eLc [3] (iRg1 (aCons (eCall f__law_drawn (aCons (eVar 0) (aCons (eVar 1) (aCons (eOp dAdd (eVar 2) (eInt 1)) aNil)))) aNil)) (tsN 3) tTrue (eOp dIx (eStr "abc ") (eCall f__law_drawn (aCons (eVar 0) (aCons (eOp dAdd (eOp dAdd (eVar 1) (eInt 1)) (eVar 3)) (aCons (eInt 4) aNil))))))))
  sNil)
def f__law_text (ds : List D) : R D := toR false (s__law_text (startE N__law_text ds))

-- _wall: statement pass
-- meet: call hand.send()
end
end G81

/-! Changes: parts, signs, forms. Plain Lean. -/
namespace G81.M
abbrev Tx := List Char
inductive Pt where
  | keep (n : Nat) | put (s : Tx) | drop (s : Tx)
  deriving DecidableEq
inductive Un where
  | k | p (c : Char) | d (c : Char)
  deriving DecidableEq
def unP : Pt → List Un
  | .keep n => List.replicate n .k
  | .put s => s.map .p
  | .drop s => s.map .d
def uns (c : List Pt) : List Un := c.flatMap unP
@[simp] theorem uns_nil : uns [] = [] := rfl
@[simp] theorem uns_cons (p : Pt) (c : List Pt) : uns (p :: c) = unP p ++ uns c := by simp [uns]
@[simp] theorem uns_app (a b : List Pt) : uns (a ++ b) = uns a ++ uns b := by simp [uns]
/-- the loop of of_units -/
structure Os where
  found : List Pt
  kept : Nat
  gone : Tx
  new : Tx
def optD (s : Tx) : List Pt := if s = [] then [] else [.drop s]
def optP (s : Tx) : List Pt := if s = [] then [] else [.put s]
def fl (s : Os) : Bool := (s.gone != [] || s.new != []) && decide (0 < s.kept)
def ouStep (s : Os) : Un → Os
  | .k => ⟨(if fl s = true then s.found ++ [.keep s.kept] else s.found) ++ optD s.gone ++ optP s.new, (if fl s = true then 0 else s.kept) + 1, [], []⟩
  | .d c => { s with gone := s.gone ++ [c] }
  | .p c => { s with new := s.new ++ [c] }
def ouEnd (s : Os) : List Pt := if 1 < s.kept then s.found ++ [.keep (s.kept - 1)] else s.found
def ou (us : List Un) : List Pt := ouEnd ((us ++ [Un.k]).foldl ouStep ⟨[], 0, [], []⟩)
def form (c : List Pt) : List Pt := ou (uns c)
/-- signs in the one form -/
def nfA : List Un → Tx → Tx → List Un
  | [], g, n => g.map .d ++ n.map .p
  | .k :: us, g, n => g.map .d ++ n.map .p ++ .k :: nfA us [] []
  | .d c :: us, g, n => nfA us (g ++ [c]) n
  | .p c :: us, g, n => nfA us g (n ++ [c])
def nf (us : List Un) : List Un := nfA us [] []
theorem uns_optD (s : Tx) : uns (optD s) = s.map .d := by
  unfold optD; split
  · rename_i h; subst h; rfl
  · simp [unP]
theorem uns_optP (s : Tx) : uns (optP s) = s.map .p := by
  unfold optP; split
  · rename_i h; subst h; rfl
  · simp [unP]
def jj (s : Os) : List Un := uns s.found ++ List.replicate s.kept .k
theorem jj_k (s : Os) : jj (ouStep s .k) = jj s ++ s.gone.map .d ++ s.new.map .p ++ [Un.k] := by
  simp only [jj, ouStep]
  by_cases h : fl s = true
  · simp [h, uns_optD, uns_optP, unP]
  · simp only [h, if_false, uns_app, uns_optD, uns_optP]
    have h2 : (s.gone = [] ∧ s.new = []) ∨ s.kept = 0 := by
      unfold fl at h
      simp at h
      by_cases hk : s.kept = 0
      · exact .inr hk
      · left
        by_cases hg : s.gone = [] <;> by_cases hn : s.new = [] <;> simp_all
        all_goals omega
    rcases h2 with ⟨h3, h4⟩ | h3
    · simp [h3, h4, List.replicate_succ']
    · simp [h3]
theorem ou_fold (us : List Un) : ∀ s : Os, jj ((us ++ [Un.k]).foldl ouStep s) = jj s ++ nfA us s.gone s.new ++ [Un.k] := by
  induction us with
  | nil => intro s; simp [jj_k, nfA]
  | cons u us ih =>
    intro s
    rw [List.cons_append, List.foldl_cons, ih]
    cases u with
    | k => rw [jj_k]; simp [ouStep, nfA]
    | d c => simp [ouStep, nfA, jj]
    | p c => simp [ouStep, nfA, jj]
theorem kept_pos (us : List Un) : ∀ s : Os, 0 < ((us ++ [Un.k]).foldl ouStep s).kept := by
  intro s
  rw [List.foldl_append]
  simp [ouStep]
theorem uns_ou (us : List Un) : uns (ou us) = nf us := by
  have h := ou_fold us ⟨[], 0, [], []⟩
  have hp := kept_pos us ⟨[], 0, [], []⟩
  unfold ou
  generalize (us ++ [Un.k]).foldl ouStep ⟨[], 0, [], []⟩ = s at h hp
  have h : jj s = nf us ++ [Un.k] := by simpa [jj, nf] using h
  have h2 : uns (ouEnd s) ++ [Un.k] = jj s := by
    unfold ouEnd jj
    split
    · rename_i hk
      have : s.kept = (s.kept - 1) + 1 := by omega
      rw [this, List.replicate_succ']
      simp [unP]
    · have : s.kept = 1 := by omega
      rw [this]; rfl
  exact List.append_cancel_right (h2.trans h)
theorem fold_gn (g n : Tx) (us : List Un) (s : Os) (hg : s.gone = []) (hn : s.new = []) : (g.map Un.d ++ (n.map Un.p ++ us)).foldl ouStep s = us.foldl ouStep { s with gone := g, new := n } := by
  have h1 : ∀ (g : Tx) (us : List Un) (s : Os), (g.map Un.d ++ us).foldl ouStep s = us.foldl ouStep { s with gone := s.gone ++ g } := by
    intro g
    induction g with
    | nil => intro us s; simp
    | cons c g ih => intro us s; simp [ouStep, ih]
  have h2 : ∀ (n : Tx) (us : List Un) (s : Os), (n.map Un.p ++ us).foldl ouStep s = us.foldl ouStep { s with new := s.new ++ n } := by
    intro g
    induction g with
    | nil => intro us s; simp
    | cons c g ih => intro us s; simp [ouStep, ih]
  rw [h1, h2, hg, hn]
  simp
theorem fold_nf (us : List Un) : ∀ (g n : Tx) (s : Os), s.gone = [] → s.new = [] → (nfA us g n ++ [Un.k]).foldl ouStep s = (us ++ [Un.k]).foldl ouStep { s with gone := g, new := n } := by
  induction us with
  | nil => intro g n s hg hn; rw [nfA, List.append_assoc, fold_gn g n _ s hg hn]; rfl
  | cons u us ih =>
    intro g n s hg hn
    cases u with
    | k =>
      rw [nfA]
      simp only [List.append_assoc, List.cons_append]
      rw [fold_gn g n _ s hg hn, List.foldl_cons, List.foldl_cons, ih [] [] _ rfl rfl]
      rfl
    | d c => rw [nfA, ih _ _ _ hg hn]; rfl
    | p c => rw [nfA, ih _ _ _ hg hn]; rfl
theorem ou_nf (us : List Un) : ou (nf us) = ou us := by
  unfold ou nf
  rw [fold_nf us [] [] _ rfl rfl]
theorem form_form (c : List Pt) : form (form c) = form c := by
  unfold form
  rw [uns_ou, ou_nf]
theorem uns_form (c : List Pt) : uns (form c) = nf (uns c) := uns_ou _
theorem nfA_len (us : List Un) : ∀ g n, (nfA us g n).length = us.length + g.length + n.length := by
  induction us with
  | nil => intro g n; simp [nfA]
  | cons u us ih =>
    intro g n
    cases u <;> simp [nfA, ih] <;> omega
@[simp] theorem nf_len (us : List Un) : (nf us).length = us.length := by simp [nf, nfA_len]
/-! ### what a change asks and tells -/
def ask : Un → List (Option Char)
  | .k => [none]
  | .d c => [some c]
  | .p _ => []
def asks (us : List Un) : List (Option Char) := us.flatMap ask
def told : Nat → List Un → List (Nat ⊕ Char)
  | _, [] => []
  | i, .k :: us => .inl i :: told (i + 1) us
  | i, .d _ :: us => told (i + 1) us
  | i, .p c :: us => .inr c :: told i us
@[simp] theorem asks_nil : asks [] = [] := rfl
@[simp] theorem asks_cons (u : Un) (us : List Un) : asks (u :: us) = ask u ++ asks us := by simp [asks]
@[simp] theorem asks_app (a b : List Un) : asks (a ++ b) = asks a ++ asks b := by simp [asks]
theorem asks_d (g : Tx) : asks (g.map .d) = g.map some := by induction g <;> simp_all [ask]
theorem asks_p (g : Tx) : asks (g.map .p) = [] := by induction g <;> simp_all [ask]
theorem told_d (g : Tx) (us : List Un) : ∀ i, told i (g.map .d ++ us) = told (i + g.length) us := by
  induction g with
  | nil => intro i; rfl
  | cons c g ih => intro i; simp [told, ih]; congr 1; omega
theorem told_p (g : Tx) (us : List Un) : ∀ i, told i (g.map .p ++ us) = g.map .inr ++ told i us := by
  induction g with
  | nil => intro i; rfl
  | cons c g ih => intro i; simp [told, ih]
theorem asks_nfA (us : List Un) : ∀ g n, asks (nfA us g n) = g.map some ++ asks us := by
  induction us with
  | nil => intro g n; simp [nfA, asks_d, asks_p]
  | cons u us ih => intro g n; cases u <;> simp [nfA, asks_d, asks_p, ih, ask]
theorem told_nfA (us : List Un) : ∀ g n i, told i (nfA us g n) = n.map .inr ++ told (i + g.length) us := by
  induction us with
  | nil =>
    intro g n i
    have := told_p n [] (i + g.length)
    simp only [List.append_nil] at this
    simp [nfA, told_d, this]
  | cons u us ih =>
    intro g n i
    cases u with
    | k => simp [nfA, told_d, told_p, ih, told]
    | d c => simp [nfA, ih, told, Nat.add_comm, Nat.add_left_comm, Nat.add_assoc]
    | p c => simp [nfA, ih, told]
def sense (us : List Un) : List (Option Char) × List (Nat ⊕ Char) := (asks us, told 0 us)
theorem sense_nf (us : List Un) : sense (nf us) = sense us := by
  simp [sense, nf, asks_nfA, told_nfA]
@[simp] def np : Un → Bool
  | .p _ => false
  | .d _ => true
  | .k => true
@[simp] def nd : Un → Bool
  | .p _ => true
  | .d _ => false
  | .k => true
@[simp] def nk : Un → Bool
  | .p _ => true
  | .d _ => true
  | .k => false
def bef (us : List Un) : Nat := (us.filter np).length
def aft (us : List Un) : Nat := (us.filter nd).length
def cst (us : List Un) : Nat := (us.filter nk).length
theorem asks_len (us : List Un) : (asks us).length = bef us := by
  induction us with
  | nil => rfl
  | cons u us ih => cases u <;> simp [ask, bef, List.filter_cons] at ih ⊢ <;> omega
theorem told_len (us : List Un) : ∀ i, (told i us).length = aft us := by
  induction us with
  | nil => intro i; rfl
  | cons u us ih => intro i; cases u <;> simp_all [told, aft, List.filter_cons]
/-! ### which texts fit -/
def Fit : List Un → Tx → Prop
  | [], t => t = []
  | .p _ :: us, t => Fit us t
  | .k :: us, _ :: t => Fit us t
  | .d x :: us, c :: t => x = c ∧ Fit us t
  | .k :: _, [] => False
  | .d _ :: _, [] => False
theorem Fit.app {a b : List Un} {s t : Tx} (h : Fit a s) (h' : Fit b t) : Fit (a ++ b) (s ++ t) := by
  induction a generalizing s with
  | nil => simp only [Fit] at h; subst h; exact h'
  | cons u a ih =>
    cases u with
    | p c => exact ih h
    | k => cases s with
      | nil => exact h.elim
      | cons c s => exact ih h
    | d x => cases s with
      | nil => exact h.elim
      | cons c s => exact ⟨h.1, ih h.2⟩
theorem Fit.puts (s : Tx) : Fit (s.map .p) [] := by
  induction s with
  | nil => rfl
  | cons c s ih => exact ih
theorem Fit.len {us : List Un} : ∀ {t : Tx}, Fit us t → bef us = t.length := by
  induction us with
  | nil => intro t h; simp only [Fit] at h; subst h; rfl
  | cons u us ih =>
    intro t h
    cases u with
    | p c => simpa [bef, List.filter_cons] using ih h
    | k => cases t with
      | nil => exact h.elim
      | cons c t => simpa [bef, List.filter_cons] using ih h
    | d x => cases t with
      | nil => exact h.elim
      | cons c t => simpa [bef, List.filter_cons] using ih h.2
end G81.M

/-! What the program's defs answer, in typed terms: units_of, of_units, form, before, after, cost. -/
namespace G81
open PySem M
theorem forF_step (tgt : D → Ev → R Ev) (fb : Ev → Out) (d : D) (ds : List D) (e : Ev) : forF tgt fb (d :: ds) e = match sOf (tgt d e) fb with | .nx e2 => forF tgt fb ds e2 | o => o := by
  rw [forF]
  cases tgt d e <;> rfl
theorem forF_inv {α : Type} {tgt : D → Ev → R Ev} {fb : Ev → Out} (enc : α → D) (xs : List α) (I : List α → Ev → Prop)
    (h : ∀ pre x post e, xs = pre ++ x :: post → I pre e → ∃ e', sOf (tgt (enc x) e) fb = .nx e' ∧ I (pre ++ [x]) e') : ∀ (post pre : List α) (e : Ev), xs = pre ++ post → I pre e → ∃ e', forF tgt fb (post.map enc) e = .nx e' ∧ I xs e'
  | [], pre, e, q, i => ⟨e, rfl, by rw [q, List.append_nil]; exact i⟩
  | x :: post, pre, e, q, i => by
    obtain ⟨e1, h1, i1⟩ := h pre x post e q i
    obtain ⟨e2, h2, i2⟩ := forF_inv enc xs I h post (pre ++ [x]) e1 (by rw [q]; simp) i1
    refine ⟨e2, ?_, i2⟩
    rw [List.map_cons, forF_step, h1]
    exact h2
theorem forF_all {α : Type} {tgt : D → Ev → R Ev} {fb : Ev → Out} (enc : α → D) (xs : List α) (I : List α → Ev → Prop) (e : Ev) (h0 : I [] e)
    (h : ∀ pre x post e, xs = pre ++ x :: post → I pre e → ∃ e', sOf (tgt (enc x) e) fb = .nx e' ∧ I (pre ++ [x]) e') : ∃ e', forF tgt fb (xs.map enc) e = .nx e' ∧ I xs e' :=
  forF_inv enc xs I h xs [] e rfl h0
theorem lcF_fm {α : Type} {tgt : D → Ev → R Ev} {tst : Ev → R Bool} {elt : Ev → R D} {env : Ev} (enc : α → D) (p : α → Bool) (g : α → D) :
    ∀ (xs : List α), (∀ x, x ∈ xs → ∃ e1, tgt (enc x) env = .ok e1 ∧ tst e1 = .ok (p x) ∧ (p x = true → elt e1 = .ok (g x))) → lcF tgt tst elt env (xs.map enc) = .ok ((xs.filter p).map g)
  | [], _ => rfl
  | x :: xs, h => by
    obtain ⟨e1, h1, h2, h3⟩ := h x (by simp)
    have ih := lcF_fm enc p g xs fun y hy => h y (by simp [hy])
    rw [List.map_cons, lcF, h1, R.bind_ok, h2, R.bind_ok]
    cases hp : p x with
    | true => simp [h3 hp, ih, hp]
    | false => simp [ih, hp]
theorem lcF_map {α : Type} {tgt : D → Ev → R Ev} {tst : Ev → R Bool} {elt : Ev → R D} {env : Ev} (enc : α → D) (g : α → D) (xs : List α) (h : ∀ x, x ∈ xs → ∃ e1, tgt (enc x) env = .ok e1 ∧ tst e1 = .ok true ∧ elt e1 = .ok (g x)) :
    lcF tgt tst elt env (xs.map enc) = .ok (xs.map g) := by
  have := lcF_fm (tgt := tgt) (tst := tst) (elt := elt) (env := env) enc (fun _ => true) g xs fun x hx => by
    obtain ⟨e1, h1, h2, h3⟩ := h x hx
    exact ⟨e1, h1, h2, fun _ => h3⟩
  rwa [List.filter_eq_self.mpr fun _ _ => rfl] at this
def encP : Pt → D
  | .keep n => .tup [.str ['k','e','e','p'], .int n]
  | .put s => .tup [.str ['p','u','t'], .str s]
  | .drop s => .tup [.str ['d','r','o','p'], .str s]
def encC (c : List Pt) : D := .tup (c.map encP)
def encU : Un → D
  | .k => .tup [.str ['k','e','e','p'], .str []]
  | .p c => .tup [.str ['p','u','t'], .str [c]]
  | .d c => .tup [.str ['d','r','o','p'], .str [c]]
def encUs (us : List Un) : D := .lst (us.map encU)
@[simp] theorem line1 : 1 ≤ line := by decide
@[simp] theorem line2 : 2 ≤ line := by decide
@[simp] theorem line3 : 3 ≤ line := by decide
@[simp] theorem line0 : 0 < line := by decide
theorem line_v : line = 16777216 := rfl
theorem rep_kk (n : Nat) : (List.replicate n [encU Un.k]).flatten = (List.replicate n Un.k).map encU := by
  induction n with
  | zero => rfl
  | succ n ih => rw [List.replicate_succ, List.flatten_cons, ih]; rfl
theorem uns_le {c pre post : List Pt} {p : Pt} (h : c = pre ++ p :: post) : (uns pre).length + (unP p).length ≤ (uns c).length := by
  subst h; simp [Nat.add_assoc]


/-! ### units_of -/
theorem un_w (u : Un) : True := trivial
theorem f_units_of_eq (c : List Pt) (h : (uns c).length ≤ 100000) : f_units_of [encC c] = .ok (encUs (uns c)) := by
  obtain ⟨e', h1, w, x, y, rfl⟩ := forF_all (tgt := tsT [2, 3]) (fb := b_units_of_0) encP c (fun pre e => ∃ w x y, e = [some (encC c), some (encUs (uns pre)), w, x, y]) [some (encC c), some (encUs []), none, none, none] ⟨_, _, _, rfl⟩ (by
    rintro pre p post e hc ⟨w, x, y, rfl⟩
    have hl := uns_le hc
    have hl2 : (uns pre).length + (unP p).length ≤ line := by rw [line_v]; omega
    cases p with
    | keep n =>
      simp only [unP, List.length_replicate] at hl hl2
      have h1 : repOk 1 n := by simp [repOk]; omega
      refine ⟨[some (encC c), some (encUs (uns (pre ++ [Pt.keep n]))), some (.str ['k','e','e','p']), some (.int n), y], ?_, _, _, _, rfl⟩
      simp [b_units_of_0, encP, encUs, h1, hl2, unP, encU]
    | put s =>
      simp only [unP, List.length_map] at hl hl2
      refine ⟨[some (encC c), some (encUs (uns (pre ++ [Pt.put s]))), some (.str ['p','u','t']), some (.str s), y], ?_, _, _, _, rfl⟩
      have h3 : s.length ≤ line := by omega
      have := lcF_map (tgt := tsN 4) (tst := tTrue) (elt := eTup (aCons (eVar 2) (aCons (eVar 4) aNil))) (env := [some (encC c), some (encUs (uns pre)), some (.str ['p','u','t']), some (.str s), none]) (fun c => D.str [c]) (fun c => encU (.p c)) s (fun x _ => ⟨_, rfl, rfl, by simp [encU]⟩)
      simp [b_units_of_0, encP, encUs, hl2, unP, h3] at this ⊢
      rw [this]
      simp [hl2, Function.comp_def]
    | drop s =>
      simp only [unP, List.length_map] at hl hl2
      refine ⟨[some (encC c), some (encUs (uns (pre ++ [Pt.drop s]))), some (.str ['d','r','o','p']), some (.str s), y], ?_, _, _, _, rfl⟩
      have h3 : s.length ≤ line := by omega
      have := lcF_map (tgt := tsN 4) (tst := tTrue) (elt := eTup (aCons (eVar 2) (aCons (eVar 4) aNil))) (env := [some (encC c), some (encUs (uns pre)), some (.str ['d','r','o','p']), some (.str s), none]) (fun c => D.str [c]) (fun c => encU (.d c)) s (fun x _ => ⟨_, rfl, rfl, by simp [encU]⟩)
      simp [b_units_of_0, encP, encUs, hl2, unP, h3] at this ⊢
      rw [this]
      simp [hl2, Function.comp_def])
  have h2 : startE N_units_of [encC c] = [some (encC c), none, none, none, none] := rfl
  simp only [f_units_of, s_units_of, h2]
  simp [encUs, encC] at h1 ⊢
  simp [h1]
end G81

namespace G81
open PySem M
def osE (us : List Un) (s : Os) (w x : Option D) : Ev := [some (encUs us), some (.lst (s.found.map encP)), some (.int s.kept), some (.str s.gone), some (.str s.new), w, x]
def osz (s : Os) : Nat := s.found.length + s.kept + s.gone.length + s.new.length
theorem optD_len (s : Tx) : (optD s).length ≤ 1 := by unfold optD; split <;> simp
theorem optP_len (s : Tx) : (optP s).length ≤ 1 := by unfold optP; split <;> simp
theorem osz_step (s : Os) (u : Un) : osz (ouStep s u) ≤ osz s + 4 := by
  cases u with
  | k =>
    have := optD_len s.gone
    have := optP_len s.new
    simp only [osz, ouStep]
    split <;> simp <;> omega
  | d c => simp [osz, ouStep]; omega
  | p c => simp [osz, ouStep]; omega
theorem osz_fold (us : List Un) : ∀ s, osz (us.foldl ouStep s) ≤ osz s + 4 * us.length := by
  induction us with
  | nil => intro s; simp
  | cons u us ih => intro s; have := ih (ouStep s u); have := osz_step s u; simp; omega
theorem rep0 (x : D) : (List.replicate (0 : Int).toNat [x]).flatten = [] := rfl
theorem rep1 (x : D) : (List.replicate (1 : Int).toNat [x]).flatten = [x] := rfl
theorem repOk0 : repOk 1 0 := by simp [repOk]
theorem repOk1 : repOk 1 1 := by simp [repOk]
theorem step_k (us : List Un) (s : Os) (h : osz s ≤ 900000) (w x : Option D) : sOf (tsT [5, 6] (encU .k) (osE us s w x)) b_of_units_0 = .nx (osE us (ouStep s .k) (some (.str ['k','e','e','p'])) (some (.str []))) := by
  have h1 := optD_len s.gone
  have h2 := optP_len s.new
  simp only [osz] at h
  have lv := line_v
  have l1 : s.found.length < line := by omega
  have l2 : s.found.length + 2 ≤ line := by omega
  have l3 : s.found.length + 1 ≤ line := by omega
  have l4 : s.found.length ≤ line := by omega
  have l5 : s.found.length + 3 ≤ line := by omega
  rcases Nat.eq_zero_or_pos s.kept with hk | hk <;> by_cases hg : s.gone = [] <;> by_cases hn : s.new = [] <;>
    simp [b_of_units_0, encU, osE, ouStep, fl, hk, hg, hn, optD, optP, encP, repOk0, repOk1, l1, l2, l3, l4, l5]
theorem step_p (us : List Un) (s : Os) (c : Char) (h : osz s ≤ 900000) (w x : Option D) : sOf (tsT [5, 6] (encU (.p c)) (osE us s w x)) b_of_units_0 = .nx (osE us (ouStep s (.p c)) (some (.str ['p','u','t'])) (some (.str [c]))) := by
  simp only [osz] at h
  have lv := line_v
  have l1 : s.new.length + 1 ≤ line := by omega
  simp [b_of_units_0, encU, osE, ouStep, l1]
theorem step_d (us : List Un) (s : Os) (c : Char) (h : osz s ≤ 900000) (w x : Option D) : sOf (tsT [5, 6] (encU (.d c)) (osE us s w x)) b_of_units_0 = .nx (osE us (ouStep s (.d c)) (some (.str ['d','r','o','p'])) (some (.str [c]))) := by
  simp only [osz] at h
  have lv := line_v
  have l1 : s.gone.length + 1 ≤ line := by omega
  simp [b_of_units_0, encU, osE, ouStep, l1]
theorem f_of_units_eq (us : List Un) (h : us.length ≤ 200000) : f_of_units [encUs us] = .ok (encC (ou us)) := by
  obtain ⟨e', h1, w, x, rfl⟩ := forF_all (tgt := tsT [5, 6]) (fb := b_of_units_0) encU (us ++ [Un.k]) (fun pre e => ∃ w x, e = osE us (pre.foldl ouStep ⟨[], 0, [], []⟩) w x) (osE us ⟨[], 0, [], []⟩ none none) ⟨_, _, rfl⟩ (by
    rintro pre u post e hc ⟨w, x, rfl⟩
    have hl : pre.length ≤ 200000 := by
      have := congrArg List.length hc
      simp at this; omega
    have hz := osz_fold pre ⟨[], 0, [], []⟩
    have hz : osz (pre.foldl ouStep ⟨[], 0, [], []⟩) ≤ 900000 := by simp only [osz] at hz ⊢; simp at hz; omega
    rw [List.foldl_append]
    cases u with
    | k => exact ⟨_, step_k us _ hz w x, _, _, rfl⟩
    | p c => exact ⟨_, step_p us _ c hz w x, _, _, rfl⟩
    | d c => exact ⟨_, step_d us _ c hz w x, _, _, rfl⟩)
  have hz : osz ((us ++ [Un.k]).foldl ouStep ⟨[], 0, [], []⟩) ≤ 900000 := by
    have hz := osz_fold (us ++ [Un.k]) ⟨[], 0, [], []⟩
    simp only [osz] at hz ⊢; simp at hz ⊢; omega
  have h2 : startE N_of_units [encUs us] = [some (encUs us), none, none, none, none, none, none] := rfl
  have lv := line_v
  have l1 : us.length + 1 ≤ line := by omega
  unfold ou
  generalize (us ++ [Un.k]).foldl ouStep ⟨[], 0, [], []⟩ = s at h1 hz
  simp only [osz] at hz
  have l2 : s.found.length < line := by omega
  simp only [f_of_units, s_of_units, h2]
  simp [osE, encUs, encU] at h1
  simp [encUs, encC, ouEnd, l1, h1, l2]
  by_cases hk : 1 < s.kept
  · have : ((s.kept - 1 : Nat) : Int) = (s.kept : Int) - 1 := by omega
    have hk2 : (1 : Int) < s.kept := by omega
    simp [hk, hk2, encP, this, l2]
  · have hk2 : ¬ (1 : Int) < s.kept := by omega
    simp [hk, hk2]
theorem ou_len (us : List Un) : (uns (ou us)).length = us.length := by rw [uns_ou]; simp
theorem f_form_eq (c : List Pt) (h : (uns c).length ≤ 100000) : f_form [encC c] = .ok (encC (form c)) := by
  have h2 : startE N_form [encC c] = [some (encC c)] := rfl
  simp [f_form, s_form, h2, f_units_of_eq c h, f_of_units_eq (uns c) (by omega), form]
theorem f_before_eq (c : List Pt) (h : (uns c).length ≤ 100000) : f_before [encC c] = .ok (.int (bef (uns c))) := by
  have h2 : startE N_before [encC c] = [some (encC c), none] := rfl
  have l : (uns c).length ≤ line := by rw [line_v]; omega
  have := lcF_fm (tgt := tsN 1) (tst := tCm dNe (eOp dIx (eVar 1) (eInt 0)) (eStr "put")) (elt := eVar 1) (env := [some (encC c), none]) encU np encU (uns c) (fun u _ => ⟨_, rfl, by cases u <;> simp [encU], fun _ => by cases u <;> simp [encU]⟩)
  simp [f_before, s_before, h2, f_units_of_eq c h, encUs, l]
  rw [this] <;> simp [bef]
theorem f_after_eq (c : List Pt) (h : (uns c).length ≤ 100000) : f_after [encC c] = .ok (.int (aft (uns c))) := by
  have h2 : startE N_after [encC c] = [some (encC c), none] := rfl
  have l : (uns c).length ≤ line := by rw [line_v]; omega
  have := lcF_fm (tgt := tsN 1) (tst := tCm dNe (eOp dIx (eVar 1) (eInt 0)) (eStr "drop")) (elt := eVar 1) (env := [some (encC c), none]) encU nd encU (uns c) (fun u _ => ⟨_, rfl, by cases u <;> simp [encU], fun _ => by cases u <;> simp [encU]⟩)
  simp [f_after, s_after, h2, f_units_of_eq c h, encUs, l]
  rw [this] <;> simp [aft]
theorem f_cost_eq (c : List Pt) (h : (uns c).length ≤ 100000) : f_cost [encC c] = .ok (.int (cst (uns c))) := by
  have h2 : startE N_cost [encC c] = [some (encC c), none] := rfl
  have l : (uns c).length ≤ line := by rw [line_v]; omega
  have := lcF_fm (tgt := tsN 1) (tst := tCm dNe (eOp dIx (eVar 1) (eInt 0)) (eStr "keep")) (elt := eVar 1) (env := [some (encC c), none]) encU nk encU (uns c) (fun u _ => ⟨_, rfl, by cases u <;> simp [encU], fun _ => by cases u <;> simp [encU]⟩)
  simp [f_cost, s_cost, h2, f_units_of_eq c h, encUs, l]
  rw [this] <;> simp [cst]
end G81

/-! What the laws' common defs answer: cells, drawn numbers, texts, changes. -/
namespace G81
open PySem M
noncomputable section
def cellI (ns : List Int) (k : Int) : Int := if ns = [] then 7 * k else (ns[(k % ns.length).toNat]?.getD 0) + 6553 * (k / ns.length)
def dr1 (ns : List Int) (k : Int) : Int := (cellI ns k % 2147483563 * 69069 + 104723 * (k + 1)) % 2147483563
def dr2 (x : Int) : Int := (x * x + x / 3) % 2147483399
def dr (ns : List Int) (k m : Int) : Nat := ((dr2 (dr1 ns k) * dr2 (dr1 ns k) + dr2 (dr1 ns k) / 7) % 2147483647 / 11 % m).toNat
theorem dr_lt (ns : List Int) (k m : Int) (h : 0 < m) : (dr ns k m : Int) < m := by
  unfold dr
  generalize (dr2 (dr1 ns k) * dr2 (dr1 ns k) + dr2 (dr1 ns k) / 7) % 2147483647 / 11 = x
  have := Int.emod_nonneg x (show m ≠ 0 by omega)
  have := Int.emod_lt_of_pos x h
  omega
theorem cms_ints : ∀ l : List Int, cmDs (l.map D.int) = true
  | [] => by simp
  | i :: l => by simp [cms_ints l]
theorem dEq_scr (ns : List Int) : dEq (.scr ns) (.lst []) = .ok (decide (ns = [])) := by
  have h1 : shD (.scr ns) = true := by rw [shD_iff]; simp
  have h2 : shD (.lst []) = true := by rw [shD_iff]; simp
  unfold dEq
  rw [if_pos ⟨h1, h2⟩]
  cases ns <;> simp [eqD, toP, PyData.eqv, toPs, PyData.eqvAll]
theorem smallC (i : Int) (h : -(2 ^ 64) < i ∧ i < 2 ^ 64) : smallF i := h
open L2 in
theorem f_cell_eq (ns : List Int) (hn : ns.length ≤ 63) (k : Int) : f__law_cell [.scr ns, .int k] = .ok (.int (cellI ns k)) := by
  have h2 : startE N__law_cell [.scr ns, .int k] = [some (.scr ns), some (.int k)] := rfl
  have s7 : smallF 7 := smallC 7 (by decide)
  have s6 : smallF 6553 := smallC 6553 (by decide)
  by_cases h : ns = []
  · subst h
    simp [f__law_cell, s__law_cell, h2, dEq_scr, cellI, s7]
  · have hp : 0 < ns.length := List.length_pos_iff.mpr h
    have hp1 : (0 : Int) < ns.length := by omega
    have hp2 : (ns.length : Int) < 1073741824 := by omega
    have q1 := Int.emod_nonneg k (show (ns.length : Int) ≠ 0 by omega)
    have q2 := Int.emod_lt_of_pos k hp1
    have q3 : (k % ns.length).toNat < ns.length := by omega
    have hat : atI ns (k % ns.length) = some (ns[(k % ns.length).toNat]?.getD 0) := by
      unfold atI ixN
      simp [q1, q2, List.getElem?_eq_getElem q3]
    simp [f__law_cell, s__law_cell, h2, dEq_scr, cellI, h, hp, hp2, dIx, hat, s6]
theorem f_drawn_eq (ns : List Int) (hn : ns.length ≤ 63) (k m : Int) (hm : 0 < m) : f__law_drawn [.scr ns, .int k, .int m] = .ok (.int (dr ns k m)) := by
  have h2 : startE N__law_drawn [.scr ns, .int k, .int m] = [some (.scr ns), some (.int k), some (.int m), none] := rfl
  have s1 : smallF 69069 := smallC _ (by decide)
  have s2 : smallF 104723 := smallC _ (by decide)
  have s3 : smallF (dr1 ns k) := by
    unfold dr1
    generalize cellI ns k % 2147483563 * 69069 + 104723 * (k + 1) = x
    have := Int.emod_nonneg x (show (2147483563 : Int) ≠ 0 by decide)
    have := Int.emod_lt_of_pos x (show (0 : Int) < 2147483563 by decide)
    exact smallC _ (by omega)
  have s4 : smallF (dr2 (dr1 ns k)) := by
    unfold dr2
    generalize dr1 ns k * dr1 ns k + dr1 ns k / 3 = x
    have := Int.emod_nonneg x (show (2147483399 : Int) ≠ 0 by decide)
    have := Int.emod_lt_of_pos x (show (0 : Int) < 2147483399 by decide)
    exact smallC _ (by omega)
  have e : (dr ns k m : Int) = (dr2 (dr1 ns k) * dr2 (dr1 ns k) + dr2 (dr1 ns k) / 7) % 2147483647 / 11 % m := by
    unfold dr
    have := Int.emod_nonneg ((dr2 (dr1 ns k) * dr2 (dr1 ns k) + dr2 (dr1 ns k) / 7) % 2147483647 / 11) (show m ≠ 0 by omega)
    omega
  rw [e]
  simp only [f__law_drawn, s__law_drawn, h2]
  simp [f_cell_eq ns hn, s1, s2, hm]
  rw [show (cellI ns k % 2147483563 * 69069 + 104723 * (k + 1)) % 2147483563 = dr1 ns k from rfl]
  simp [s3]
  rw [show (dr1 ns k * dr1 ns k + dr1 ns k / 3) % 2147483399 = dr2 (dr1 ns k) from rfl]
  simp [s4, hm]
theorem rgD0 (n : Nat) : rgD 0 n = (List.range n).map fun i : Nat => D.int i := by simp [rgD]
theorem strsOf_map {α : Type} (f : α → List Char) : ∀ xs : List α, strsOf (xs.map fun x => D.str (f x)) = some (xs.map f)
  | [] => rfl
  | x :: xs => by rw [List.map_cons, strsOf, strsOf_map f xs]; rfl
theorem joinC_nil : ∀ ys : List (List Char), joinC [] ys = ys.flatten
  | [] => rfl
  | [p] => by simp [joinC]
  | p :: q :: r => by rw [joinC, joinC_nil (q :: r)]; simp
theorem big_ok (i : Int) (h : -(2 ^ 62) ≤ i ∧ i < 2 ^ 62) : big62 i := h
/-- a sign of the few -/
def sgT (i : Nat) : Char := ['a', 'b', 'c', ' '][i]?.getD 'a'
def sgP (i : Nat) : Char := ['a', 'b', 'z'][i]?.getD 'a'
theorem sgT_at (i : Nat) (h : i < 4) : dIx (.str ['a', 'b', 'c', ' ']) (.int i) = .ok (.str [sgT i]) := by
  rw [dIx_nat_str _ _ (by simp [line_v])]
  match i, h with
  | 0, _ => rfl
  | 1, _ => rfl
  | 2, _ => rfl
  | 3, _ => rfl
theorem sgP_at (i : Nat) (h : i < 3) : dIx (.str ['a', 'b', 'z']) (.int i) = .ok (.str [sgP i]) := by
  rw [dIx_nat_str _ _ (by simp [line_v])]
  match i, h with
  | 0, _ => rfl
  | 1, _ => rfl
  | 2, _ => rfl
def ltext (ns : List Int) (a m : Int) : Tx := (List.range (dr ns a (m + 1))).map fun i : Nat => sgT (dr ns (a + 1 + i) 4)
theorem sum1 {α : Type} : ∀ xs : List α, (xs.map fun _ => 1).sum = xs.length
  | [] => rfl
  | x :: xs => by rw [List.map_cons, List.sum_cons, sum1 xs, List.length_cons]; omega
theorem flat1 {α β : Type} (f : α → β) : ∀ xs : List α, (xs.map fun i => [f i]).flatten = xs.map f
  | [] => rfl
  | x :: xs => by rw [List.map_cons, List.flatten_cons, flat1 f xs]; rfl
theorem f_text_eq (ns : List Int) (hn : ns.length ≤ 63) (a m : Int) (hm : 0 ≤ m) (hm2 : m ≤ 1000) : f__law_text [.scr ns, .int a, .int m] = .ok (.str (ltext ns a m)) := by
  have h2 : startE N__law_text [.scr ns, .int a, .int m] = [some (.scr ns), some (.int a), some (.int m), none] := rfl
  have hd := dr_lt ns a (m + 1) (by omega)
  have h4 := fun k => dr_lt ns k 4 (by omega)
  have hlc := lcF_map (tgt := tsN 3) (tst := tTrue) (elt := eOp dIx (eStr "abc ") (eCall f__law_drawn (aCons (eVar 0) (aCons (eOp dAdd (eOp dAdd (eVar 1) (eInt 1)) (eVar 3)) (aCons (eInt 4) aNil))))) (env := [some (.scr ns), some (.int a), some (.int m), none])
    (fun i : Nat => D.int i) (fun i : Nat => D.str [sgT (dr ns (a + 1 + i) 4)]) (List.range (dr ns a (m + 1))) (fun i _ => ⟨_, rfl, rfl, by
      have := h4 (a + 1 + i)
      simp [f_drawn_eq ns hn, sgT_at (dr ns (a + 1 + i) 4) (by omega)]⟩)
  have hb : big62 (dr ns a (m + 1) : Int) := big_ok _ (by omega)
  have hl : dr ns a (m + 1) ≤ line := by rw [line_v]; omega
  have hj := strsOf_map (fun i : Nat => [sgT (dr ns (a + 1 + i) 4)]) (List.range (dr ns a (m + 1)))
  simp only [f__law_text, s__law_text, h2]
  simp [f_drawn_eq ns hn a (m + 1) (by omega), hb, rgD0, hl] at hlc ⊢
  rw [hlc]
  simp [dJoin, hj, Function.comp_def, hl, joinC_nil, ltext]
  rw [sum1, flat1, List.length_range, if_pos hl]
  rfl
theorem ltext_len (ns : List Int) (a m : Int) (hm : 0 ≤ m) : ((ltext ns a m).length : Int) ≤ m := by
  have hd := dr_lt ns a (m + 1) (by omega)
  rw [ltext, List.length_map, List.length_range]
  omega
theorem sgT_mem (i : Nat) : sgT i ∈ ['a', 'b', 'c', ' '] := by
  match i with
  | 0 => simp [sgT]
  | 1 => simp [sgT]
  | 2 => simp [sgT]
  | 3 => simp [sgT]
  | n + 4 => simp [sgT]
theorem sgP_mem (i : Nat) : sgP i ∈ ['a', 'b', 'z'] := by
  match i with
  | 0 => simp [sgP]
  | 1 => simp [sgP]
  | 2 => simp [sgP]
  | n + 3 => simp [sgP]
theorem ltext_mem (ns : List Int) (a m : Int) : ∀ c ∈ ltext ns a m, c ∈ ['a', 'b', 'c', ' '] := by
  intro c h
  obtain ⟨i, _, rfl⟩ := List.mem_map.mp h
  exact sgT_mem _
/-- the parts of a drawn change -/
def smP (t : Tx) : Pt → Prop
  | .keep n => n = 1
  | .put s => s ≠ [] ∧ s.length ≤ 2 ∧ ∀ c ∈ s, c ∈ ['a', 'b', 'z']
  | .drop s => ∃ c ∈ t, s = [c]
structure Drawn (c : List Pt) (t : Tx) : Prop where
  fit : Fit (uns c) t
  len : c.length ≤ 2 * t.length + 1
  sz : (uns c).length ≤ 3 * t.length + 2
  sm : ∀ p ∈ c, smP t p
structure DrawI (c : List Pt) (t : Tx) (i : Nat) : Prop where
  fit : Fit (uns c) (t.take i)
  len : c.length + (if i ≤ t.length then 0 else 1) ≤ 2 * i
  sz : (uns c).length + (if i ≤ t.length then 0 else 1) ≤ 3 * i
  sm : ∀ p ∈ c, smP t p
theorem DrawI.put {c : List Pt} {t : Tx} {i : Nat} (d : DrawI c t i) (h : i ≤ t.length) (s : Tx) (h1 : s ≠ []) (h2 : s.length ≤ 2) (h3 : ∀ c ∈ s, c ∈ ['a', 'b', 'z']) :
    Fit (uns (c ++ [Pt.put s])) (t.take i) ∧ (c ++ [Pt.put s]).length ≤ 2 * i + 1 ∧ (uns (c ++ [Pt.put s])).length ≤ 3 * i + 2 ∧ ∀ p ∈ c ++ [Pt.put s], smP t p := by
  have a := d.len
  have b := d.sz
  rw [if_pos h] at a b
  refine ⟨?_, by simp; omega, by simp [unP]; omega, fun p hp => ?_⟩
  · have := d.fit.app (Fit.puts s)
    simpa [unP] using this
  · rcases List.mem_append.mp hp with hp | hp
    · exact d.sm p hp
    · rw [List.mem_singleton] at hp; subst hp; exact ⟨h1, h2, h3⟩
theorem DrawI.go {c : List Pt} {t : Tx} {i : Nat} {x : Char} (hx : t[i]? = some x) (h1 : Fit (uns c) (t.take i)) (h2 : c.length ≤ 2 * i + 1) (h3 : (uns c).length ≤ 3 * i + 2) (h4 : ∀ p ∈ c, smP t p) (p : Pt) (hp : p = .keep 1 ∨ p = .drop [x]) : DrawI (c ++ [p]) t (i + 1) := by
  have hi : i < t.length := (List.getElem?_eq_some_iff.mp hx).1
  have ht : t.take (i + 1) = t.take i ++ [x] := by rw [List.take_succ, hx]; rfl
  refine ⟨?_, ?_, ?_, fun q hq => ?_⟩
  · rw [ht, uns_app]
    refine h1.app ?_
    rcases hp with rfl | rfl
    · exact rfl
    · exact ⟨rfl, rfl⟩
  · rw [if_pos (show i + 1 ≤ t.length from hi)]; simp; omega
  · rw [if_pos (show i + 1 ≤ t.length from hi)]
    rcases hp with rfl | rfl <;> simp [unP] <;> omega
  · rcases List.mem_append.mp hq with hq | hq
    · exact h4 q hq
    · rw [List.mem_singleton] at hq; subst hq
      rcases hp with rfl | rfl
      · exact rfl
      · exact ⟨x, List.mem_of_getElem? hx, rfl⟩
theorem range_split {n i : Nat} {pre post : List Nat} (h : List.range n = pre ++ i :: post) : i = pre.length ∧ i < n := by
  have h1 := congrArg (fun l => l[pre.length]?) h
  have h2 := congrArg List.length h
  simp at h1 h2
  have h3 : pre.length < n := by omega
  simp [h3] at h1
  omega
theorem repOkN (a n : Nat) (h : n < 1000000 ∧ a * n ≤ 1000000) : repOk a n := ⟨by omega, by omega, by simpa using h.2⟩
theorem step_put (ns : List Int) (hn : ns.length ≤ 63) (a : Int) (t : Tx) (c : List Pt) (hc : c.length ≤ 5000) (i : Nat) (y : Option D) (h0 : dr ns (a + 4 * i) 4 = 0) : ∃ s : Tx, s ≠ [] ∧ s.length ≤ 2 ∧ (∀ c ∈ s, c ∈ ['a', 'b', 'z']) ∧ ∀ z : Option D,
    (sIf (tCm dEq (eCall f__law_drawn (aCons (eVar 0) (aCons (eOp dAdd (eVar 1) (eOp dMul (eInt 4) (eVar 4))) (aCons (eInt 4) aNil)))) (eInt 0)) (sSeq (sSet 5 (eOp dMul (eOp dIx (eStr "abz") (eCall f__law_drawn (aCons (eVar 0) (aCons (eOp dAdd (eOp dAdd (eVar 1) (eOp dMul (eInt 4) (eVar 4))) (eInt 1)) (aCons (eInt 3) aNil))))) (eOp dAdd (eInt 1) (eCall f__law_drawn (aCons (eVar 0) (aCons (eOp dAdd (eOp dAdd (eVar 1) (eOp dMul (eInt 4) (eVar 4))) (eInt 2)) (aCons (eInt 2) aNil)))))))
  (sSeq (sSet 3 (eOp dAdd (eVar 3) (eTup (aCons (eTup (aCons (eStr "put") (aCons (eVar 5) aNil))) aNil))))
  sNil)) sNil) [some (.scr ns), some (.int a), some (.str t), some (encC c), some (.int i), y, z] = .nx [some (.scr ns), some (.int a), some (.str t), some (encC (c ++ [Pt.put s])), some (.int i), some (.str s), z] := by
  have s4 : smallF 4 := smallC _ (by decide)
  have h3 := dr_lt ns (a + 4 * i + 1) 3 (by decide)
  have h2 := dr_lt ns (a + 4 * i + 2) 2 (by decide)
  have lv := line_v
  refine ⟨List.replicate (1 + dr ns (a + 4 * i + 2) 2) (sgP (dr ns (a + 4 * i + 1) 3)), by simp, by simp; omega, fun c hc => by rw [List.eq_of_mem_replicate hc]; exact sgP_mem _, fun z => ?_⟩
  have hr : repOk 1 (1 + (dr ns (a + 4 * i + 2) 2 : Int)) := by
    have := repOkN 1 (1 + dr ns (a + 4 * i + 2) 2) (by omega)
    simpa using this
  have e : (1 + (dr ns (a + 4 * i + 2) 2 : Int)).toNat = 1 + dr ns (a + 4 * i + 2) 2 := by omega
  have l1 : c.length + 1 ≤ line := by omega
  simp [f_drawn_eq ns hn, s4, h0, encC, sgP_at _ (show dr ns (a + 4 * i + 1) 3 < 3 by omega), hr, e, l1, encP]
theorem f_change_ok (ns : List Int) (hn : ns.length ≤ 63) (a : Int) (t : Tx) (ht : t.length ≤ 1000) : ∃ c, f__law_change [.scr ns, .int a, .str t] = .ok (encC c) ∧ Drawn c t := by
  have h2 : startE N__law_change [.scr ns, .int a, .str t] = [some (.scr ns), some (.int a), some (.str t), none, none, none, none] := rfl
  have hl : t.length ≤ line := by rw [line_v]; omega
  have hb : big62 ((t.length : Int) + 1) := big_ok _ (by omega)
  obtain ⟨e', h1, c, x, y, z, rfl, hc⟩ := forF_all (tgt := tsN 4) (fb := b__law_change_0) (fun i : Nat => D.int i) (List.range (t.length + 1)) (fun pre e => ∃ c x y z, e = [some (.scr ns), some (.int a), some (.str t), some (encC c), x, y, z] ∧ DrawI c t pre.length) [some (.scr ns), some (.int a), some (.str t), some (encC []), none, none, none] ⟨[], _, _, _, rfl, rfl, by simp, by simp, by simp⟩ (by
    rintro pre i post e hr ⟨c, x, y, z, rfl, hd⟩
    obtain ⟨rfl, hi⟩ := range_split hr
    have s4 : smallF 4 := smallC _ (by decide)
    have lv := line_v
    have hc5 : c.length ≤ 5000 := by have := hd.len; omega
    have hput : ∃ c1 y1, (∀ z1, (sIf (tCm dEq (eCall f__law_drawn (aCons (eVar 0) (aCons (eOp dAdd (eVar 1) (eOp dMul (eInt 4) (eVar 4))) (aCons (eInt 4) aNil)))) (eInt 0)) (sSeq (sSet 5 (eOp dMul (eOp dIx (eStr "abz") (eCall f__law_drawn (aCons (eVar 0) (aCons (eOp dAdd (eOp dAdd (eVar 1) (eOp dMul (eInt 4) (eVar 4))) (eInt 1)) (aCons (eInt 3) aNil))))) (eOp dAdd (eInt 1) (eCall f__law_drawn (aCons (eVar 0) (aCons (eOp dAdd (eOp dAdd (eVar 1) (eOp dMul (eInt 4) (eVar 4))) (eInt 2)) (aCons (eInt 2) aNil)))))))
  (sSeq (sSet 3 (eOp dAdd (eVar 3) (eTup (aCons (eTup (aCons (eStr "put") (aCons (eVar 5) aNil))) aNil))))
  sNil)) sNil) [some (.scr ns), some (.int a), some (.str t), some (encC c), some (.int pre.length), y, z1] = .nx [some (.scr ns), some (.int a), some (.str t), some (encC c1), some (.int pre.length), y1, z1]) ∧ Fit (uns c1) (t.take pre.length) ∧ c1.length ≤ 2 * pre.length + 1 ∧ (uns c1).length ≤ 3 * pre.length + 2 ∧ ∀ p ∈ c1, smP t p := by
      by_cases h0 : dr ns (a + 4 * pre.length) 4 = 0
      · obtain ⟨s, q1, q2, q3, q4⟩ := step_put ns hn a t c hc5 pre.length y h0
        exact ⟨c ++ [Pt.put s], some (.str s), q4, hd.put (by omega) s q1 q2 q3⟩
      · have h5 := hd.len
        have h6 := hd.sz
        rw [if_pos (by omega)] at h5 h6
        refine ⟨c, y, fun z1 => ?_, hd.fit, by omega, by omega, hd.sm⟩
        simp [f_drawn_eq ns hn, s4, h0]
    obtain ⟨c1, y1, hrun, g1, g2, g3, g4⟩ := hput
    have l1 : c1.length + 1 ≤ line := by omega
    by_cases hlt : pre.length < t.length
    · obtain ⟨x, hx⟩ : ∃ x, t[pre.length]? = some x := ⟨_, List.getElem?_eq_getElem hlt⟩
      have hix := dIx_nat_str t pre.length hl
      rw [hx] at hix
      refine ⟨_, ?_, c1 ++ [if 0 < dr ns (a + 4 * pre.length + 3) 3 then Pt.keep 1 else Pt.drop [x]], some (.int pre.length), y1, some (.bl (decide (0 < dr ns (a + 4 * pre.length + 3) 3))), rfl, ?_⟩
      · rw [b__law_change_0]
        show sSeq _ _ _ = _
        rw [sSeq]
        simp only [Ev.set]
        rw [hrun z]
        by_cases hk : 0 < dr ns (a + 4 * pre.length + 3) 3
        · simp [f_drawn_eq ns hn, s4, hl, hlt, hix, encC, hk, encP, l1]
        · simp [f_drawn_eq ns hn, s4, hl, hlt, hix, encC, hk, encP, l1]
      · rw [List.length_append]
        exact DrawI.go hx g1 g2 g3 g4 _ (by split <;> simp)
    · refine ⟨_, ?_, c1, some (.int pre.length), y1, z, rfl, ?_⟩
      · rw [b__law_change_0]
        show sSeq _ _ _ = _
        rw [sSeq]
        simp only [Ev.set]
        rw [hrun z]
        simp [hl, hlt]
      · have : pre.length = t.length := by omega
        rw [List.length_append, this]
        rw [this] at g1 g2 g3
        rw [List.take_length] at g1
        refine ⟨by rw [List.take_of_length_le (by simp)]; exact g1, ?_, ?_, g4⟩
        · rw [if_neg (by simp)]; simp; omega
        · rw [if_neg (by simp)]; simp; omega)
  rw [List.length_range] at hc
  refine ⟨c, ?_, ?_⟩
  · simp only [f__law_change, s__law_change, h2]
    have ht1 : ((t.length : Int) + 1).toNat = t.length + 1 := by omega
    simp [encC] at h1 ⊢
    simp [hl, hb, rgD0, ht1, h1]
  · have h5 := hc.fit
    have h6 := hc.len
    have h7 := hc.sz
    rw [List.take_of_length_le (by omega)] at h5
    rw [if_neg (by omega)] at h6 h7
    exact ⟨h5, by omega, by omega, hc.sm⟩
end
end G81

/-! The one form: neighbours, parts. Plain Lean. -/
namespace G81.M
@[simp] def okW : Pt → Pt → Bool
  | .keep _, .keep _ => false
  | .keep _, .put _ => true
  | .keep _, .drop _ => true
  | .put _, .keep _ => true
  | .put _, .put _ => false
  | .put _, .drop _ => false
  | .drop _, .keep _ => true
  | .drop _, .put _ => true
  | .drop _, .drop _ => false
def chn : List Pt → Bool
  | [] => true
  | [_] => true
  | p :: q :: r => okW p q && chn (q :: r)
@[simp] def nemp : Pt → Bool
  | .keep n => n != 0
  | .put s => s != []
  | .drop s => s != []
def isForm (c : List Pt) : Bool := chn c && c.all nemp
def lastOk (c : List Pt) (p : Pt) : Bool := match c.getLast? with
  | some q => okW q p
  | none => true
theorem chn_snoc (p : Pt) : ∀ c : List Pt, chn (c ++ [p]) = (chn c && lastOk c p)
  | [] => rfl
  | [q] => by simp [chn, lastOk]
  | q :: r :: c => by
    have := chn_snoc p (r :: c)
    simp only [List.cons_append] at this ⊢
    rw [chn, this, chn]
    have : lastOk (q :: r :: c) p = lastOk (r :: c) p := by simp [lastOk, List.getLast?_cons_cons]
    rw [this, Bool.and_assoc]
theorem lastOk_snoc (f : List Pt) (q p : Pt) : lastOk (f ++ [q]) p = okW q p := by simp [lastOk]
/-- what stands while signs are gone over -/
structure OsOk (s : Os) : Prop where
  ch : chn s.found = true
  ne : s.found.all nemp = true
  last : s.found ≠ [] → (∃ x, s.found.getLast? = some (.put x) ∨ s.found.getLast? = some (.drop x)) ∧ 0 < s.kept
theorem OsOk.step {s : Os} (h : OsOk s) (u : Un) : OsOk (ouStep s u) := by
  cases u with
  | d c => exact ⟨h.ch, h.ne, h.last⟩
  | p c => exact ⟨h.ch, h.ne, h.last⟩
  | k =>
    obtain ⟨ch, ne, last⟩ := h
    have hl : ∀ n, lastOk s.found (.keep n) = true := by
      intro n
      unfold lastOk
      by_cases hf : s.found = []
      · simp [hf]
      · obtain ⟨⟨x, hx | hx⟩, _⟩ := last hf <;> simp [hx]
    have mk : ∀ f : List Pt, chn f = true → f.all nemp = true → (∀ x, lastOk f (.drop x) = true) → (∀ x, lastOk f (.put x) = true) → chn (f ++ optD s.gone ++ optP s.new) = true ∧ (f ++ optD s.gone ++ optP s.new).all nemp = true := by
      intro f h1 h2 h3 h4
      unfold optD optP
      by_cases hg : s.gone = [] <;> by_cases hn : s.new = [] <;> simp only [hg, hn, if_true, if_false, List.append_nil, chn_snoc, lastOk_snoc, h1, h3, h4, List.all_append, h2] <;> simp [hg, hn]
    have mkl : ∀ f : List Pt, (s.gone ≠ [] ∨ s.new ≠ []) → ∃ x, (f ++ optD s.gone ++ optP s.new).getLast? = some (.put x) ∨ (f ++ optD s.gone ++ optP s.new).getLast? = some (.drop x) := by
      intro f h
      unfold optD optP
      by_cases hn : s.new = []
      · have hg : s.gone ≠ [] := by rcases h with h | h; exact h; exact absurd hn h
        exact ⟨s.gone, .inr (by simp [hn, hg])⟩
      · exact ⟨s.new, .inl (by simp [hn])⟩
    by_cases hp : s.gone = [] ∧ s.new = []
    · have hf : fl s = false := by simp [fl, hp.1, hp.2]
      have e : ouStep s .k = ⟨s.found, s.kept + 1, [], []⟩ := by simp [ouStep, hf, hp.1, hp.2, optD, optP]
      rw [e]
      exact ⟨ch, ne, fun z => ⟨(last z).1, by simp⟩⟩
    · have hp' : s.gone ≠ [] ∨ s.new ≠ [] := by
        by_cases hg : s.gone = []
        · exact .inr fun z => hp ⟨hg, z⟩
        · exact .inl hg
      have hd : ∀ f n, (∀ x, lastOk (f ++ [Pt.keep n]) (.drop x) = true) ∧ (∀ x, lastOk (f ++ [Pt.keep n]) (.put x) = true) := by
        intro f n; exact ⟨fun x => by simp [lastOk], fun x => by simp [lastOk]⟩
      by_cases hk : 0 < s.kept
      · have hf : fl s = true := by
          unfold fl
          rcases hp' with h | h <;> simp [h, hk]
        have e : ouStep s .k = ⟨s.found ++ [.keep s.kept] ++ optD s.gone ++ optP s.new, 0 + 1, [], []⟩ := by simp [ouStep, hf]
        rw [e]
        have h1 := mk (s.found ++ [.keep s.kept]) (by rw [chn_snoc, ch, hl]; rfl) (by
          rw [List.all_append, ne]; simp; omega) (hd _ _).1 (hd _ _).2
        exact ⟨h1.1, h1.2, fun _ => ⟨mkl _ hp', by simp⟩⟩
      · have hfo : s.found = [] := by
          by_cases z : s.found = []
          · exact z
          · exact absurd (last z).2 hk
        have hf : fl s = false := by simp [fl, hk]
        have e : ouStep s .k = ⟨s.found ++ optD s.gone ++ optP s.new, s.kept + 1, [], []⟩ := by simp [ouStep, hf]
        rw [e]
        have h1 := mk s.found ch ne (by simp [hfo, lastOk]) (by simp [hfo, lastOk])
        exact ⟨h1.1, h1.2, fun _ => ⟨mkl _ hp', by simp⟩⟩
theorem OsOk.fold (us : List Un) : ∀ {s : Os}, OsOk s → OsOk (us.foldl ouStep s) := by
  induction us with
  | nil => intro s h; exact h
  | cons u us ih => intro s h; exact ih (h.step u)
theorem isForm_ou (us : List Un) : isForm (ou us) = true := by
  unfold ou
  have h : OsOk ((us ++ [Un.k]).foldl ouStep ⟨[], 0, [], []⟩) := OsOk.fold _ ⟨rfl, rfl, fun z => absurd rfl z⟩
  generalize (us ++ [Un.k]).foldl ouStep ⟨[], 0, [], []⟩ = s at h
  unfold ouEnd isForm
  split
  · rename_i hk
    rw [chn_snoc, h.ch, List.all_append, h.ne]
    have : lastOk s.found (.keep (s.kept - 1)) = true := by
      unfold lastOk
      by_cases hf : s.found = []
      · simp [hf]
      · obtain ⟨⟨x, hx | hx⟩, _⟩ := h.last hf <;> simp [hx]
    rw [this]
    simp; omega
  · rw [h.ch, h.ne]; rfl
theorem isForm_form (c : List Pt) : isForm (form c) = true := isForm_ou _
theorem told_app (a b : List Un) : ∀ i, told i (a ++ b) = told i a ++ told (i + bef a) b := by
  induction a with
  | nil => intro i; simp [told, bef]
  | cons u a ih =>
    intro i
    cases u <;> simp [told, ih, bef, List.filter_cons] <;> congr 1 <;> omega
theorem told_kk (n : Nat) : ∀ i, told i (List.replicate n .k) = (List.range n).map fun j => .inl (i + j) := by
  induction n with
  | zero => intro i; rfl
  | succ n ih =>
    intro i
    rw [List.replicate_succ, told, ih, List.range_succ_eq_map]
    simp [List.map_map, Function.comp_def]
    intro a _; omega
theorem told_d0 (g : Tx) (i : Nat) : told i (g.map .d) = [] := by
  have := told_d g [] i
  simpa [told] using this
theorem told_p0 (g : Tx) (i : Nat) : told i (g.map .p) = g.map .inr := by
  have := told_p g [] i
  simpa [told] using this
theorem asks_kk (n : Nat) : asks (List.replicate n .k) = List.replicate n none := by
  induction n with
  | zero => rfl
  | succ n ih => rw [List.replicate_succ, asks_cons, ih]; rfl
end G81.M
namespace G81.M
theorem nemp_len {c : List Pt} (h : c.all nemp = true) : c.length ≤ (uns c).length := by
  induction c with
  | nil => simp
  | cons p c ih =>
    rw [List.all_cons, Bool.and_eq_true] at h
    have := ih h.2
    have h1 : 1 ≤ (unP p).length := by
      have h1 := h.1
      cases p with
      | keep n => simp [unP] at h1 ⊢; omega
      | put s => simp [unP] at h1 ⊢; cases s <;> simp_all
      | drop s => simp [unP] at h1 ⊢; cases s <;> simp_all
    simp; omega
theorem form_len (c : List Pt) : (form c).length ≤ (uns c).length := by
  have := nemp_len ((Bool.and_eq_true _ _).mp (isForm_form c)).2
  rw [uns_form, nf_len] at this
  exact this
theorem kept_cst (us : List Un) : ∀ i, (bef us : Int) - ((told i us).filter Sum.isLeft).length + aft us - ((told i us).filter Sum.isLeft).length = cst us := by
  induction us with
  | nil => intro i; rfl
  | cons u us ih =>
    intro i
    cases u with
    | k => have := ih (i + 1); simp [bef, aft, cst, told, List.filter_cons] at this ⊢; omega
    | d c => have := ih (i + 1); simp [bef, aft, cst, told, List.filter_cons] at this ⊢; omega
    | p c => have := ih i; simp [bef, aft, cst, told, List.filter_cons] at this ⊢; omega
theorem bef_nf (us : List Un) : bef (nf us) = bef us := by
  have := congrArg (fun s => s.1.length) (sense_nf us)
  simpa [sense, asks_len] using this
theorem aft_nf (us : List Un) : aft (nf us) = aft us := by
  have := congrArg (fun s => s.2.length) (sense_nf us)
  simpa [sense, told_len] using this
theorem cst_nf (us : List Un) : cst (nf us) = cst us := by
  have h1 := kept_cst (nf us) 0
  have h2 := kept_cst us 0
  have h3 := congrArg (fun s => s.2) (sense_nf us)
  simp only [sense] at h3
  rw [h3, bef_nf, aft_nf, h2] at h1
  omega
end G81.M

/-! What the laws' sense, form test answer. -/
namespace G81
open PySem M
noncomputable section
def encA : Option Char → D
  | none => .str []
  | some c => .str [c]
def encT : Nat ⊕ Char → D
  | .inl i => .int i
  | .inr c => .str [c]
def encS (s : List (Option Char) × List (Nat ⊕ Char)) : D := .tup [.lst (s.1.map encA), .lst (s.2.map encT)]
theorem told_le (us : List Un) (i : Nat) : (told i us).length ≤ us.length := by
  rw [told_len]; exact List.length_filter_le _ _
theorem asks_le (us : List Un) : (asks us).length ≤ us.length := by
  rw [asks_len]; exact List.length_filter_le _ _
theorem f_sense_eq (c : List Pt) (h : (uns c).length ≤ 100000) : f__law_sense [encC c] = .ok (encS (sense (uns c))) := by
  have h2 : startE N__law_sense [encC c] = [some (encC c), none, none, none, none] := rfl
  obtain ⟨e', h1, w, x, rfl⟩ := forF_all (tgt := tsT [3, 4]) (fb := b__law_sense_0) encP c (fun pre e => ∃ w x, e = [some (encC c), some (.lst ((asks (uns pre)).map encA)), some (.lst ((told 0 (uns pre)).map encT)), w, x]) [some (encC c), some (.lst []), some (.lst []), none, none] ⟨_, _, rfl⟩ (by
    rintro pre p post e hc ⟨w, x, rfl⟩
    have hl := uns_le hc
    have hl2 := told_le (uns pre) 0
    have hl3 := asks_le (uns pre)
    have lv := line_v
    cases p with
    | keep n =>
      simp only [unP, List.length_replicate] at hl
      have h1 : repOk 1 n := repOkN 1 n (by omega)
      have b1 : big62 (asks (uns pre)).length := big_ok _ (by omega)
      have b2 : big62 (((asks (uns pre)).length : Int) + n) := big_ok _ (by omega)
      have b3 : (((asks (uns pre)).length : Int) + n - (asks (uns pre)).length).toNat = n := by omega
      refine ⟨[some (encC c), some (.lst ((asks (uns (pre ++ [Pt.keep n]))).map encA)), some (.lst ((told 0 (uns (pre ++ [Pt.keep n]))).map encT)), some (.str ['k','e','e','p']), some (.int n)], ?_, _, _, rfl⟩
      have l1 : n ≤ line := by omega
      have l2 : (asks (uns pre)).length + n ≤ line := by omega
      have l3 : (told 0 (uns pre)).length + n ≤ line := by omega
      simp [b__law_sense_0, encP, dListRg, b1, b2, b3, l1, l2, l3, h1, rgD, unP, told_app, told_kk, asks_kk, ← asks_len, encA, encT, Function.comp_def]
    | put s =>
      simp only [unP, List.length_map] at hl
      have l1 : s.length ≤ line := by omega
      have l3 : (told 0 (uns pre)).length + s.length ≤ line := by omega
      refine ⟨[some (encC c), some (.lst ((asks (uns (pre ++ [Pt.put s]))).map encA)), some (.lst ((told 0 (uns (pre ++ [Pt.put s]))).map encT)), some (.str ['p','u','t']), some (.str s)], ?_, _, _, rfl⟩
      simp [b__law_sense_0, encP, l1, l3, unP, told_app, told_p0, asks_p, encA, encT, Function.comp_def]
    | drop s =>
      simp only [unP, List.length_map] at hl
      have l1 : s.length ≤ line := by omega
      have l3 : (asks (uns pre)).length + s.length ≤ line := by omega
      refine ⟨[some (encC c), some (.lst ((asks (uns (pre ++ [Pt.drop s]))).map encA)), some (.lst ((told 0 (uns (pre ++ [Pt.drop s]))).map encT)), some (.str ['d','r','o','p']), some (.str s)], ?_, _, _, rfl⟩
      simp [b__law_sense_0, encP, l1, l3, unP, told_app, told_d0, asks_d, encA, encT, Function.comp_def])
  simp only [f__law_sense, s__law_sense, h2]
  simp [encC] at h1 ⊢
  simp [h1, encS, sense]
def wdD : Pt → D
  | .keep _ => .str ['k','e','e','p']
  | .put _ => .str ['p','u','t']
  | .drop _ => .str ['d','r','o','p']
theorem zip_chn (A B z : Option D) : ∀ (c : List Pt) (x y : Option D), chn c = true → ∃ x' y', forF (tsT [2, 3]) b__law_is_form_0 (zipD (c.map wdD) ((c.map wdD).drop 1)) [A, B, x, y, z] = .nx [A, B, x', y', z]
  | [], x, y, _ => ⟨x, y, rfl⟩
  | [p], x, y, _ => ⟨x, y, rfl⟩
  | p :: q :: r, x, y, h => by
    rw [chn, Bool.and_eq_true] at h
    obtain ⟨x', y', ih⟩ := zip_chn A B z (q :: r) (some (wdD p)) (some (wdD q)) h.2
    refine ⟨x', y', ?_⟩
    simp only [List.map_cons, List.drop_one, List.tail_cons] at ih ⊢
    rw [zipD, forF_step]
    have h1 := h.1
    have e : sOf (tsT [2, 3] (D.tup [wdD p, wdD q]) [A, B, x, y, z]) b__law_is_form_0 = .nx [A, B, some (wdD p), some (wdD q), z] := by
      cases p <;> cases q <;> first | (simp at h1; done) | simp [b__law_is_form_0, wdD]
    rw [e]
    exact ih
theorem f_is_form_ok (c : List Pt) (hl : c.length ≤ 100000) (h : isForm c = true) : f__law_is_form [encC c] = .ok (.bl true) := by
  have h2 : startE N__law_is_form [encC c] = [some (encC c), none, none, none, none] := rfl
  obtain ⟨h3, h4⟩ := (Bool.and_eq_true _ _).mp h
  have l1 : c.length ≤ line := by rw [line_v]; omega
  have hlc := lcF_map (tgt := tsN 4) (tst := tTrue) (elt := eOp dIx (eVar 4) (eInt 0)) (env := [some (encC c), none, none, none, none]) encP wdD c (fun p _ => ⟨_, rfl, rfl, by cases p <;> simp [encP, wdD]⟩)
  obtain ⟨x', y', hz⟩ := zip_chn (some (encC c)) (some (.lst (c.map wdD))) none c none none h3
  have hlc2 := lcF_fm (tgt := tsN 4) (tst := tCm dIn (eOp dIx (eVar 4) (eInt 1)) (eTup (aCons (eStr "") (aCons (eInt 0) aNil)))) (elt := eVar 4) (env := [some (encC c), some (.lst (c.map wdD)), x', y', none]) encP (fun _ => false) encP c (fun p hp => ⟨_, rfl, by
    have := List.all_eq_true.mp h4 p hp
    cases p with
    | keep n => have : ¬ ((0 : Int) = n) := by simp at this; omega
                simp [encP, dIn, inL, flD, this]
    | put s => simp at this; simp [encP, dIn, inL, flD, this]
    | drop s => simp at this; simp [encP, dIn, inL, flD, this], fun z => by cases z⟩)
  simp only [f__law_is_form, s__law_is_form, h2]
  have e1 : cutL (c.map wdD) (some 1) none = (c.map wdD).drop 1 := cutL_drop _ 1
  simp [encC, e1, l1] at hlc hlc2 hz ⊢
  simp [hlc, e1, hz, hlc2, l1]
  have e3 : List.filter (fun _ => false) c = [] := List.filter_eq_nil_iff.mpr fun _ _ => by simp
  have e4 : dEq (.lst []) (.lst []) = .ok true := by rw [dEq_sh (by rw [shD_iff]; simp) (by rw [shD_iff]; simp)]; simp
  rw [e3]
  simp [e4]
end
/-! ### equality of typed data -/
theorem en_P : En encP 1 := ⟨fun p => by cases p <;> simp [encP], fun p => by cases p <;> simp [encP], fun p q => by
  cases p <;> cases q <;> simp [encP]
  omega⟩
theorem en_U : En encU 1 := ⟨fun p => by cases p <;> simp [encU], fun p => by cases p <;> simp [encU], fun p q => by
  cases p <;> cases q <;> simp [encU]⟩
theorem en_A : En encA 0 := ⟨fun p => by cases p <;> simp [encA], fun p => by cases p <;> simp [encA], fun p q => by
  cases p <;> cases q <;> simp [encA]⟩
theorem en_T : En encT 0 := ⟨fun p => by cases p <;> simp [encT], fun p => by cases p <;> simp [encT], fun p q => by
  cases p <;> cases q <;> simp [encT]
  omega⟩
theorem en_C : En encC 2 := en_P.tup
theorem en_Us : En encUs 2 := en_U.lst
end G81
namespace G81
open PySem M
@[simp] theorem dEq_C (a b : List Pt) : dEq (encC a) (encC b) = .ok (decide (a = b)) := en_C.dEq (by decide) a b
@[simp] theorem dNe_C (a b : List Pt) : dNe (encC a) (encC b) = .ok (!decide (a = b)) := en_C.dNe (by decide) a b
theorem en_S : En encS 2 := (en_A.lst).pair (en_T.lst)
@[simp] theorem dEq_S (a b : List (Option Char) × List (Nat ⊕ Char)) : dEq (encS a) (encS b) = .ok (decide (a = b)) := en_S.dEq (by decide) a b
@[simp] theorem dNe_S (a b : List (Option Char) × List (Nat ⊕ Char)) : dNe (encS a) (encS b) = .ok (!decide (a = b)) := en_S.dNe (by decide) a b
end G81

/-! Sense tells the one form; undoing. Plain Lean. -/
namespace G81.M
theorem map_some_split : ∀ {g g' : Tx} {r r' : List (Option Char)}, g.map some ++ none :: r = g'.map some ++ none :: r' → g = g' ∧ r = r'
  | [], [], _, _, h => by simpa using h
  | [], _ :: _, _, _, h => by simp at h
  | _ :: _, [], _, _, h => by simp at h
  | c :: g, c' :: g', r, r', h => by
    simp at h
    have := map_some_split h.2
    exact ⟨by rw [h.1, this.1], this.2⟩
theorem map_some_end : ∀ {g g' : Tx} {r : List (Option Char)}, g.map some ++ none :: r ≠ g'.map some
  | [], [], _ => by simp
  | [], _ :: _, _ => by simp
  | _ :: _, [], _ => by simp
  | c :: g, c' :: g', r => by
    intro h
    simp at h
    exact map_some_end h.2
theorem map_inr_split : ∀ {g g' : Tx} {i j : Nat} {r r' : List (Nat ⊕ Char)}, g.map .inr ++ .inl i :: r = g'.map .inr ++ .inl j :: r' → g = g' ∧ r = r'
  | [], [], _, _, _, _, h => by simp at h; exact ⟨rfl, h.2⟩
  | [], _ :: _, _, _, _, _, h => by simp at h
  | _ :: _, [], _, _, _, _, h => by simp at h
  | c :: g, c' :: g', i, j, r, r', h => by
    simp at h
    have := map_inr_split h.2
    exact ⟨by rw [h.1, this.1], this.2⟩
theorem inj_some {g g' : Tx} (h : g.map some = g'.map some) : g = g' := (List.map_inj_right (fun _ _ e => Option.some.inj e)).mp h
theorem inj_inr {g g' : Tx} (h : g.map (Sum.inr : Char → Nat ⊕ Char) = g'.map .inr) : g = g' := (List.map_inj_right (fun _ _ e => Sum.inr.inj e)).mp h
theorem nfA_det (u : List Un) : ∀ (v : List Un) (g n g' n' : Tx) (i : Nat), g.map some ++ asks u = g'.map some ++ asks v → n.map .inr ++ told (i + g.length) u = n'.map .inr ++ told (i + g'.length) v → nfA u g n = nfA v g' n' := by
  induction u with
  | nil =>
    intro v
    induction v with
    | nil =>
      intro g n g' n' i h1 h2
      simp only [asks_nil, told, List.append_nil] at h1 h2
      have e1 : g = g' := inj_some h1
      have e2 : n = n' := inj_inr h2
      rw [e1, e2]
    | cons w v ih =>
      intro g n g' n' i h1 h2
      cases w with
      | d c =>
        show nfA [] g n = nfA v (g' ++ [c]) n'
        exact ih g n (g' ++ [c]) n' i (by simpa [ask] using h1) (by simpa [told, Nat.add_assoc] using h2)
      | p c =>
        show nfA [] g n = nfA v g' (n' ++ [c])
        exact ih g n g' (n' ++ [c]) i (by simpa [ask] using h1) (by simpa [told] using h2)
      | k => simp [ask] at h1; exact absurd h1.symm map_some_end
  | cons x u ihu =>
    intro v
    cases x with
    | d c =>
      intro g n g' n' i h1 h2
      rw [nfA]
      exact ihu v (g ++ [c]) n g' n' i (by simpa [ask] using h1) (by simpa [told, Nat.add_assoc] using h2)
    | p c =>
      intro g n g' n' i h1 h2
      rw [nfA]
      exact ihu v g (n ++ [c]) g' n' i (by simpa [ask] using h1) (by simpa [told] using h2)
    | k =>
      induction v with
      | nil => intro g n g' n' i h1 h2; simp [ask] at h1; exact absurd h1 map_some_end
      | cons w v ih =>
        intro g n g' n' i h1 h2
        cases w with
        | d c =>
          show nfA (Un.k :: u) g n = nfA v (g' ++ [c]) n'
          exact ih g n (g' ++ [c]) n' i (by simpa [ask] using h1) (by simpa [told, Nat.add_assoc] using h2)
        | p c =>
          show nfA (Un.k :: u) g n = nfA v g' (n' ++ [c])
          exact ih g n g' (n' ++ [c]) i (by simpa [ask] using h1) (by simpa [told] using h2)
        | k =>
          simp only [asks_cons, ask, List.singleton_append, List.cons_append, List.nil_append] at h1
          simp only [told] at h2
          obtain ⟨rfl, h3⟩ := map_some_split h1
          obtain ⟨rfl, h4⟩ := map_inr_split h2
          rw [nfA, nfA, ihu v [] [] [] [] (i + g.length + 1) (by simpa using h3) (by simpa using h4)]
theorem nf_of_sense {u v : List Un} (h : sense u = sense v) : nf u = nf v := by
  simp only [sense, Prod.mk.injEq] at h
  exact nfA_det u v [] [] [] [] 0 (by simpa using h.1) (by simpa using h.2)
theorem sense_iff {u v : List Un} : nf u = nf v ↔ sense u = sense v :=
  ⟨fun h => by rw [← sense_nf u, h, sense_nf], nf_of_sense⟩
theorem ou_eq {u v : List Un} : ou u = ou v ↔ nf u = nf v :=
  ⟨fun h => by rw [← uns_ou, h, uns_ou], fun h => by rw [← ou_nf u, h, ou_nf]⟩
theorem ou_sense {u v : List Un} (h : sense u = sense v) : ou u = ou v := ou_eq.mpr (nf_of_sense h)
theorem nf_nf (u : List Un) : nf (nf u) = nf u := nf_of_sense (sense_nf u)
/-! ### which text fits, what is made of it, by sense -/
def FitA : List (Option Char) → Tx → Prop
  | [], t => t = []
  | none :: a, _ :: t => FitA a t
  | some x :: a, c :: t => x = c ∧ FitA a t
  | none :: _, [] => False
  | some _ :: _, [] => False
theorem fit_iff (us : List Un) : ∀ t, Fit us t ↔ FitA (asks us) t := by
  induction us with
  | nil => intro t; rfl
  | cons u us ih =>
    intro t
    cases u with
    | p c => simpa [Fit, ask] using ih t
    | k => cases t <;> simp [Fit, FitA, ask, ih]
    | d c => cases t <;> simp [Fit, FitA, ask, ih]
theorem fit_nf (us : List Un) (t : Tx) : Fit (nf us) t ↔ Fit us t := by
  rw [fit_iff, fit_iff, show asks (nf us) = asks us from congrArg Prod.fst (sense_nf us)]
def look (t : Tx) : Nat ⊕ Char → Char
  | .inl i => t[i]?.getD ' '
  | .inr c => c
def made (us : List Un) (t : Tx) : Tx := (told 0 us).map (look t)
theorem made_nf (us : List Un) (t : Tx) : made (nf us) t = made us t := by
  unfold made
  rw [show told 0 (nf us) = told 0 us from congrArg Prod.snd (sense_nf us)]
/-- what is made, sign by sign -/
def mk : List Un → Tx → Tx
  | [], _ => []
  | .p c :: us, t => c :: mk us t
  | .k :: us, c :: t => c :: mk us t
  | .d _ :: us, _ :: t => mk us t
  | .k :: _, [] => []
  | .d _ :: _, [] => []
theorem mk_eq (us : List Un) : ∀ (s t : Tx), Fit us t → mk us t = (told s.length us).map (look (s ++ t)) := by
  induction us with
  | nil => intro s t h; rfl
  | cons u us ih =>
    intro s t h
    cases u with
    | p c => rw [mk, told, ih s t h]; rfl
    | k => cases t with
      | nil => exact h.elim
      | cons c t =>
        have := ih (s ++ [c]) t h
        simp at this
        simp [mk, told, look, this]
    | d x => cases t with
      | nil => exact h.elim
      | cons c t =>
        have := ih (s ++ [c]) t h.2
        simp at this
        simp [mk, told, this]
theorem made_mk (us : List Un) (t : Tx) (h : Fit us t) : made us t = mk us t := (mk_eq us [] t h).symm
theorem made_len (us : List Un) (t : Tx) : (made us t).length = aft us := by simp [made, told_len]
/-! ### undone -/
@[simp] def iv : Un → Un
  | .k => .k
  | .p c => .d c
  | .d c => .p c
def inv (us : List Un) : List Un := us.map iv
@[simp] theorem inv_nil : inv [] = [] := rfl
@[simp] theorem inv_cons (u : Un) (us : List Un) : inv (u :: us) = iv u :: inv us := rfl
@[simp] theorem inv_app (a b : List Un) : inv (a ++ b) = inv a ++ inv b := by simp [inv]
theorem inv_d (g : Tx) : inv (g.map .d) = g.map .p := by simp [inv]
theorem inv_p (g : Tx) : inv (g.map .p) = g.map .d := by simp [inv]
@[simp] theorem inv_inv (us : List Un) : inv (inv us) = us := by
  induction us with
  | nil => rfl
  | cons u us ih => cases u <;> simp [ih]
@[simp] theorem inv_len (us : List Un) : (inv us).length = us.length := by simp [inv]
theorem asks_inv_nfA (us : List Un) : ∀ g n, asks (inv (nfA us g n)) = n.map some ++ asks (inv us) := by
  induction us with
  | nil => intro g n; simp [nfA, inv_d, inv_p, asks_d, asks_p]
  | cons u us ih => intro g n; cases u <;> simp [nfA, inv_d, inv_p, asks_d, asks_p, ih, ask]
theorem told_inv_nfA (us : List Un) : ∀ g n i, told i (inv (nfA us g n)) = g.map .inr ++ told (i + n.length) (inv us) := by
  induction us with
  | nil =>
    intro g n i
    have h1 := told_p g (n.map .d) i
    have h2 := told_d n [] i
    simp only [List.append_nil] at h2
    simp [nfA, inv_d, inv_p, h1, h2, told]
  | cons u us ih =>
    intro g n i
    cases u with
    | k => simp [nfA, inv_d, inv_p, told_d, told_p, ih, told]
    | d c => simp [nfA, ih, told]
    | p c => simp [nfA, ih, told, Nat.add_comm, Nat.add_left_comm, Nat.add_assoc]
theorem sense_inv_nf (us : List Un) : sense (inv (nf us)) = sense (inv us) := by
  simp [sense, nf, asks_inv_nfA, told_inv_nfA]
theorem bef_inv (us : List Un) : bef (inv us) = aft us := by
  induction us with
  | nil => rfl
  | cons u us ih => cases u <;> simp_all [bef, aft, List.filter_cons]
theorem aft_inv (us : List Un) : aft (inv us) = bef us := by
  induction us with
  | nil => rfl
  | cons u us ih => cases u <;> simp_all [bef, aft, List.filter_cons]
theorem cst_inv (us : List Un) : cst (inv us) = cst us := by
  induction us with
  | nil => rfl
  | cons u us ih => cases u <;> simp_all [cst, List.filter_cons]
def askT : Nat ⊕ Char → Option Char
  | .inl _ => none
  | .inr c => some c
theorem asks_inv (us : List Un) : ∀ i, asks (inv us) = (told i us).map askT := by
  induction us with
  | nil => intro i; rfl
  | cons u us ih =>
    intro i
    cases u with
    | k => simp [told, ask, askT, ih (i + 1)]
    | p c => simp [told, ask, askT, ih i]
    | d c => simp [told, ask, askT, ih (i + 1)]
theorem fit_inv {us : List Un} : ∀ {t : Tx}, Fit us t → Fit (inv us) (mk us t) ∧ mk (inv us) (mk us t) = t := by
  induction us with
  | nil => intro t h; simp only [Fit] at h; subst h; exact ⟨rfl, rfl⟩
  | cons u us ih =>
    intro t h
    cases u with
    | p c => have := ih h; exact ⟨⟨rfl, this.1⟩, this.2⟩
    | k => cases t with
      | nil => exact h.elim
      | cons c t => have := ih h; exact ⟨this.1, by simp [mk, this.2]⟩
    | d x => cases t with
      | nil => exact h.elim
      | cons c t =>
        obtain ⟨rfl, h⟩ := h
        have := ih h; exact ⟨this.1, by simp [mk, this.2]⟩
end G81.M
namespace G81.M
theorem fitA_set {a : List (Option Char)} : ∀ {m : Tx} {i : Nat} {q : Char}, FitA a m → i < m.length → m[i]? ≠ some q → (FitA a (m.take i ++ q :: m.drop (i + 1)) ↔ a[i]? = some none) := by
  induction a with
  | nil => intro m i q h hi; simp only [FitA] at h; subst h; simp at hi
  | cons x a ih =>
    intro m i q h hi hq
    cases m with
    | nil => simp at hi
    | cons c m =>
      cases i with
      | zero =>
        cases x with
        | none => simp [FitA] at h ⊢; exact h
        | some z =>
          simp [FitA] at h hq ⊢
          intro e; exact absurd (h.1.symm.trans e) hq
      | succ i =>
        cases x with
        | none =>
          have := ih (m := m) (i := i) (q := q) h (by simpa using hi) (by simpa using hq)
          simpa [FitA] using this
        | some z =>
          have := ih (m := m) (i := i) (q := q) h.2 (by simpa using hi) (by simpa using hq)
          simpa [FitA, h.1] using this
theorem mk_mem {x : Char} (us : List Un) : ∀ {t : Tx}, x ∈ mk us t → x ∈ t ∨ Un.p x ∈ us := by
  induction us with
  | nil => intro t h; simp [mk] at h
  | cons u us ih =>
    intro t h
    cases u with
    | p c =>
      simp [mk] at h
      rcases h with rfl | h
      · exact .inr (by simp)
      · rcases ih h with h | h
        · exact .inl h
        · exact .inr (by simp [h])
    | k => cases t with
      | nil => simp [mk] at h
      | cons c t =>
        simp [mk] at h
        rcases h with rfl | h
        · exact .inl (by simp)
        · rcases ih h with h | h
          · exact .inl (by simp [h])
          · exact .inr (by simp [h])
    | d c => cases t with
      | nil => simp [mk] at h
      | cons c t =>
        simp [mk] at h
        rcases ih h with h | h
        · exact .inl (by simp [h])
        · exact .inr (by simp [h])
theorem uns_p_mem {x : Char} (c : List Pt) (h : Un.p x ∈ uns c) : ∃ s, Pt.put s ∈ c ∧ x ∈ s := by
  induction c with
  | nil => simp at h
  | cons p c ih =>
    simp at h
    rcases h with h | h
    · cases p with
      | keep n => simp [unP] at h
      | put s => simp [unP] at h; exact ⟨s, by simp, h⟩
      | drop s => simp [unP] at h
    · obtain ⟨s, h1, h2⟩ := ih h
      exact ⟨s, by simp [h1], h2⟩
end G81.M

/-! One change behind another. Plain Lean. -/
namespace G81.M
def thn : List Un → List Un → Option (List Un)
  | .d c :: m, y => (thn m y).map (.d c :: ·)
  | [], .p c :: y => (thn [] y).map (.p c :: ·)
  | .k :: m, .p c :: y => (thn (.k :: m) y).map (.p c :: ·)
  | .p x :: m, .p c :: y => (thn (.p x :: m) y).map (.p c :: ·)
  | [], [] => some []
  | [], .k :: _ => none
  | [], .d _ :: _ => none
  | .k :: _, [] => none
  | .p _ :: _, [] => none
  | .k :: m, .k :: y => (thn m y).map (.k :: ·)
  | .k :: m, .d c :: y => (thn m y).map (.d c :: ·)
  | .p c :: m, .k :: y => (thn m y).map (.p c :: ·)
  | .p c :: m, .d x :: y => if c = x then thn m y else none
termination_by m y => m.length + y.length
/-- what comes of two, as a relation -/
inductive Th : List Un → List Un → List Un → Prop where
  | dd {c m y r} : Th m y r → Th (.d c :: m) y (.d c :: r)
  | pp {c m y r} : Th m y r → Th m (.p c :: y) (.p c :: r)
  | nl : Th [] [] []
  | kk {m y r} : Th m y r → Th (.k :: m) (.k :: y) (.k :: r)
  | kd {c m y r} : Th m y r → Th (.k :: m) (.d c :: y) (.d c :: r)
  | pk {c m y r} : Th m y r → Th (.p c :: m) (.k :: y) (.p c :: r)
  | pd {c m y r} : Th m y r → Th (.p c :: m) (.d c :: y) r
theorem thn_th (m y : List Un) : ∀ r, thn m y = some r → Th m y r := by
  induction m, y using thn.induct <;> intro r h <;> rw [thn] at h
  case case1 ih => simp only [Option.map_eq_some_iff] at h; obtain ⟨r', h1, rfl⟩ := h; exact .dd (ih _ h1)
  case case2 ih => simp only [Option.map_eq_some_iff] at h; obtain ⟨r', h1, rfl⟩ := h; exact .pp (ih _ h1)
  case case3 ih => simp only [Option.map_eq_some_iff] at h; obtain ⟨r', h1, rfl⟩ := h; exact .pp (ih _ h1)
  case case4 ih => simp only [Option.map_eq_some_iff] at h; obtain ⟨r', h1, rfl⟩ := h; exact .pp (ih _ h1)
  case case5 => cases h; exact .nl
  case case6 => cases h
  case case7 => cases h
  case case8 => cases h
  case case9 => cases h
  case case10 ih => simp only [Option.map_eq_some_iff] at h; obtain ⟨r', h1, rfl⟩ := h; exact .kk (ih _ h1)
  case case11 ih => simp only [Option.map_eq_some_iff] at h; obtain ⟨r', h1, rfl⟩ := h; exact .kd (ih _ h1)
  case case12 ih => simp only [Option.map_eq_some_iff] at h; obtain ⟨r', h1, rfl⟩ := h; exact .pk (ih _ h1)
  case case13 ih => rw [if_pos rfl] at h; exact .pd (ih _ h)
  case case14 hx => rw [if_neg hx] at h; cases h
theorem Th.len {m y r : List Un} (h : Th m y r) : r.length ≤ m.length + y.length := by
  induction h <;> simp <;> omega
/-! ### when it is there -/
def Mt : List (Option Char) → List (Option Char) → Prop
  | [], [] => True
  | some c :: a, some x :: b => c = x ∧ Mt a b
  | none :: a, _ :: b => Mt a b
  | some _ :: a, none :: b => Mt a b
  | [], _ :: _ => False
  | _ :: _, [] => False
theorem Mt.comm : ∀ {a b : List (Option Char)}, Mt a b → Mt b a
  | [], [], _ => trivial
  | some c :: a, some x :: b, h => ⟨h.1.symm, Mt.comm h.2⟩
  | none :: a, none :: b, h => Mt.comm (a := a) (b := b) h
  | none :: a, some _ :: b, h => Mt.comm (a := a) (b := b) h
  | some _ :: a, none :: b, h => Mt.comm (a := a) (b := b) h
  | [], _ :: _, h => h.elim
  | none :: _, [], h => h.elim
  | some _ :: _, [], h => h.elim
theorem Mt.refl : ∀ (a : List (Option Char)), Mt a a
  | [] => trivial
  | none :: a => Mt.refl a
  | some _ :: a => ⟨rfl, Mt.refl a⟩
theorem thn_iff (m y : List Un) : (∃ r, thn m y = some r) ↔ Mt (asks (inv m)) (asks y) := by
  induction m, y using thn.induct <;> rw [thn] <;> simp only [inv_cons, iv, inv_nil, asks_cons, asks_nil, ask, List.nil_append, List.singleton_append, List.cons_append, Option.map_eq_some_iff] at *
  case case1 ih => rw [← ih]; exact ⟨fun ⟨_, a, h, _⟩ => ⟨a, h⟩, fun ⟨a, h⟩ => ⟨_, a, h, rfl⟩⟩
  case case2 ih => rw [← ih]; exact ⟨fun ⟨_, a, h, _⟩ => ⟨a, h⟩, fun ⟨a, h⟩ => ⟨_, a, h, rfl⟩⟩
  case case3 ih => rw [← ih]; exact ⟨fun ⟨_, a, h, _⟩ => ⟨a, h⟩, fun ⟨a, h⟩ => ⟨_, a, h, rfl⟩⟩
  case case4 ih => rw [← ih]; exact ⟨fun ⟨_, a, h, _⟩ => ⟨a, h⟩, fun ⟨a, h⟩ => ⟨_, a, h, rfl⟩⟩
  case case5 => simp [Mt]
  case case6 => simp [Mt]
  case case7 => simp [Mt]
  case case8 => simp [Mt]
  case case9 => simp [Mt]
  case case10 ih => simp only [Mt]; rw [← ih]; exact ⟨fun ⟨_, a, h, _⟩ => ⟨a, h⟩, fun ⟨a, h⟩ => ⟨_, a, h, rfl⟩⟩
  case case11 ih => simp only [Mt]; rw [← ih]; exact ⟨fun ⟨_, a, h, _⟩ => ⟨a, h⟩, fun ⟨a, h⟩ => ⟨_, a, h, rfl⟩⟩
  case case12 ih => simp only [Mt]; rw [← ih]; exact ⟨fun ⟨_, a, h, _⟩ => ⟨a, h⟩, fun ⟨a, h⟩ => ⟨_, a, h, rfl⟩⟩
  case case13 ih => simp only [Mt, if_true, true_and]; exact ih
  case case14 hx => simp [Mt, hx]
theorem Mt.fit : ∀ {a b : List (Option Char)} {t : Tx}, FitA a t → FitA b t → Mt a b
  | [], [], _, _, _ => trivial
  | none :: a, none :: b, _ :: t, h, h' => Mt.fit (a := a) (b := b) (t := t) h h'
  | none :: a, some _ :: b, _ :: t, h, h' => Mt.fit (a := a) (b := b) (t := t) h h'.2
  | some _ :: a, none :: b, _ :: t, h, h' => Mt.fit (a := a) (b := b) (t := t) h.2 h'
  | some _ :: a, some _ :: b, _ :: t, h, h' => ⟨h.1.trans h'.1.symm, Mt.fit h.2 h'.2⟩
  | [], none :: _, [], _, h' => h'.elim
  | [], some _ :: _, [], _, h' => h'.elim
  | [], _ :: _, _ :: _, h, _ => by cases h
  | none :: _, [], [], h, _ => h.elim
  | some _ :: _, [], [], h, _ => h.elim
  | _ :: _, [], _ :: _, _, h' => by cases h'
  | none :: _, _ :: _, [], h, _ => h.elim
  | some _ :: _, _ :: _, [], h, _ => h.elim
/-! ### its sense, in two rows of asks -/
def cA : List Un → List (Option Char) → List (Option Char)
  | [], _ => []
  | .d c :: a, B => some c :: cA a B
  | .k :: a, x :: B => x :: cA a B
  | .p _ :: a, _ :: B => cA a B
  | .k :: _, [] => []
  | .p _ :: _, [] => []
theorem Th.asks {a b r : List Un} (h : Th a b r) : M.asks r = cA a (M.asks b) := by
  induction h with
  | pp h ih => simpa [ask] using ih
  | _ => simp_all [cA, ask]
theorem Th.inv {a b r : List Un} (h : Th a b r) : ∃ r', Th (M.inv b) (M.inv a) r' ∧ M.asks r' = M.asks (M.inv r) ∧ M.asks (M.inv r') = M.asks r := by
  induction h with
  | dd h ih => obtain ⟨r', h1, h2, h3⟩ := ih; exact ⟨_, .pp h1, by simpa [ask] using h2, by simpa [ask] using h3⟩
  | pp h ih => obtain ⟨r', h1, h2, h3⟩ := ih; exact ⟨_, .dd h1, by simpa [ask] using h2, by simpa [ask] using h3⟩
  | nl => exact ⟨_, .nl, rfl, rfl⟩
  | kk h ih => obtain ⟨r', h1, h2, h3⟩ := ih; exact ⟨_, .kk h1, by simpa [ask] using h2, by simpa [ask] using h3⟩
  | kd h ih => obtain ⟨r', h1, h2, h3⟩ := ih; exact ⟨_, .pk h1, by simpa [ask] using h2, by simpa [ask] using h3⟩
  | pk h ih => obtain ⟨r', h1, h2, h3⟩ := ih; exact ⟨_, .kd h1, by simpa [ask] using h2, by simpa [ask] using h3⟩
  | pd h ih => obtain ⟨r', h1, h2, h3⟩ := ih; exact ⟨_, .pd h1, h2, h3⟩
theorem Th.asksI {a b r : List Un} (h : Th a b r) : M.asks (M.inv r) = cA (M.inv b) (M.asks (M.inv a)) := by
  obtain ⟨r', h1, h2, _⟩ := h.inv
  rw [← h2, h1.asks]
@[simp] theorem aft_k (a : List Un) : aft (.k :: a) = aft a + 1 := by simp [aft, List.filter_cons]
@[simp] theorem aft_p (c : Char) (a : List Un) : aft (.p c :: a) = aft a + 1 := by simp [aft, List.filter_cons]
@[simp] theorem aft_d (c : Char) (a : List Un) : aft (.d c :: a) = aft a := by simp [aft, List.filter_cons]
@[simp] theorem aft_nil : aft [] = 0 := rfl
@[simp] theorem bef_k (a : List Un) : bef (.k :: a) = bef a + 1 := by simp [bef, List.filter_cons]
@[simp] theorem bef_p (c : Char) (a : List Un) : bef (.p c :: a) = bef a := by simp [bef, List.filter_cons]
@[simp] theorem bef_d (c : Char) (a : List Un) : bef (.d c :: a) = bef a + 1 := by simp [bef, List.filter_cons]
@[simp] theorem bef_nil : bef [] = 0 := rfl
@[simp] theorem cst_k (a : List Un) : cst (.k :: a) = cst a := by simp [cst, List.filter_cons]
@[simp] theorem cst_p (c : Char) (a : List Un) : cst (.p c :: a) = cst a + 1 := by simp [cst, List.filter_cons]
@[simp] theorem cst_d (c : Char) (a : List Un) : cst (.d c :: a) = cst a + 1 := by simp [cst, List.filter_cons]
@[simp] theorem cst_nil : cst [] = 0 := rfl
theorem Th.cA {a b r : List Un} (h : Th a b r) : ∀ C : List (Option Char), C.length = aft r → M.cA r C = M.cA a (M.cA b C) := by
  induction h with
  | dd h ih => intro C hC; simp at hC; simp [M.cA, ih C hC]
  | pp h ih => intro C hC; cases C with
    | nil => simp at hC
    | cons x C => simp at hC; simp [M.cA, ih C hC]
  | nl => intro C hC; rfl
  | kk h ih => intro C hC; cases C with
    | nil => simp at hC
    | cons x C => simp at hC; simp [M.cA, ih C hC]
  | kd h ih => intro C hC; simp at hC; simp [M.cA, ih C hC]
  | pk h ih => intro C hC; cases C with
    | nil => simp at hC
    | cons x C => simp at hC; simp [M.cA, ih C hC]
  | pd h ih => intro C hC; simp [M.cA, ih C hC]
theorem Th.bef {a b r : List Un} (h : Th a b r) : M.bef r = M.bef a := by
  induction h <;> simp [*]
theorem Th.aft {a b r : List Un} (h : Th a b r) : M.aft r = M.aft b := by
  induction h <;> simp [*]
theorem Th.mid {a b r : List Un} (h : Th a b r) : M.aft a = M.bef b := by
  induction h <;> simp [*]
theorem Th.cst {a b r : List Un} (h : Th a b r) : M.cst r ≤ M.cst a + M.cst b := by
  induction h <;> simp <;> omega
theorem cA_d (g : Tx) (a : List Un) (B : List (Option Char)) : cA (g.map .d ++ a) B = g.map some ++ cA a B := by
  induction g with
  | nil => rfl
  | cons c g ih => simp [cA, ih]
theorem cA_p (n : Tx) (a : List Un) : ∀ B : List (Option Char), n.length ≤ B.length → cA (n.map .p ++ a) B = cA a (B.drop n.length) := by
  induction n with
  | nil => intro B h; rfl
  | cons c n ih => intro B h; cases B with
    | nil => simp at h
    | cons x B => simp at h; simp [cA, ih B h]
theorem cA_nfA (a : List Un) : ∀ (g n : Tx) (B : List (Option Char)), B.length = n.length + aft a → cA (nfA a g n) B = g.map some ++ cA a (B.drop n.length) := by
  induction a with
  | nil =>
    intro g n B hB
    have h1 := cA_d g (n.map .p) B
    have h2 := cA_p n [] B (by simp at hB; omega)
    simp only [List.append_nil] at h2
    rw [nfA, h1, h2]
  | cons u a ih =>
    intro g n B hB
    cases u with
    | k =>
      rw [nfA, List.append_assoc, cA_d, cA_p _ _ _ (by omega)]
      simp only [aft_k] at hB
      cases hd : B.drop n.length with
      | nil => have := congrArg List.length hd; simp at this; omega
      | cons x B' =>
        have hl := congrArg List.length hd
        simp at hl
        have := ih [] [] B' (by simp; omega)
        simp [cA, this]
    | d c =>
      simp only [aft_d] at hB
      rw [nfA, ih (g ++ [c]) n B hB]
      simp [cA]
    | p c =>
      simp only [aft_p] at hB
      rw [nfA, ih g (n ++ [c]) B (by simp; omega)]
      cases hd : B.drop n.length with
      | nil => have := congrArg List.length hd; simp at this; omega
      | cons x B' =>
        have : B.drop (n ++ [c]).length = B' := by
          rw [List.length_append, ← List.drop_drop, hd]; rfl
        rw [this]; rfl
theorem cA_nf (a : List Un) (B : List (Option Char)) (h : B.length = aft a) : cA (nf a) B = cA a B := by
  have := cA_nfA a [] [] B (by simpa using h)
  simpa [nf] using this
theorem cA_congr {a b : List Un} (h : nf a = nf b) (B : List (Option Char)) (hB : B.length = aft a) : cA a B = cA b B := by
  rw [← cA_nf a B hB, h, cA_nf b B (by rw [hB, ← aft_nf a, h, aft_nf])]
/-! ### two rows of asks tell the form -/
theorem nfA_det2 (u : List Un) : ∀ (v : List Un) (g n g' n' : Tx), g.map some ++ asks u = g'.map some ++ asks v → n.map some ++ asks (inv u) = n'.map some ++ asks (inv v) → nfA u g n = nfA v g' n' := by
  induction u with
  | nil =>
    intro v
    induction v with
    | nil =>
      intro g n g' n' h1 h2
      simp only [asks_nil, inv_nil, List.append_nil] at h1 h2
      have e1 : g = g' := inj_some h1
      have e2 : n = n' := inj_some h2
      rw [e1, e2]
    | cons w v ih =>
      intro g n g' n' h1 h2
      cases w with
      | d c =>
        show nfA [] g n = nfA v (g' ++ [c]) n'
        exact ih g n (g' ++ [c]) n' (by simpa [ask] using h1) (by simpa [ask] using h2)
      | p c =>
        show nfA [] g n = nfA v g' (n' ++ [c])
        exact ih g n g' (n' ++ [c]) (by simpa [ask] using h1) (by simpa [ask] using h2)
      | k => simp [ask] at h1; exact absurd h1.symm map_some_end
  | cons x u ihu =>
    intro v
    cases x with
    | d c =>
      intro g n g' n' h1 h2
      rw [nfA]
      exact ihu v (g ++ [c]) n g' n' (by simpa [ask] using h1) (by simpa [ask] using h2)
    | p c =>
      intro g n g' n' h1 h2
      rw [nfA]
      exact ihu v g (n ++ [c]) g' n' (by simpa [ask] using h1) (by simpa [ask] using h2)
    | k =>
      induction v with
      | nil => intro g n g' n' h1 h2; simp [ask] at h1; exact absurd h1 map_some_end
      | cons w v ih =>
        intro g n g' n' h1 h2
        cases w with
        | d c =>
          show nfA (Un.k :: u) g n = nfA v (g' ++ [c]) n'
          exact ih g n (g' ++ [c]) n' (by simpa [ask] using h1) (by simpa [ask] using h2)
        | p c =>
          show nfA (Un.k :: u) g n = nfA v g' (n' ++ [c])
          exact ih g n g' (n' ++ [c]) (by simpa [ask] using h1) (by simpa [ask] using h2)
        | k =>
          simp only [asks_cons, inv_cons, iv, ask, List.singleton_append, List.cons_append, List.nil_append] at h1 h2
          obtain ⟨rfl, h3⟩ := map_some_split h1
          obtain ⟨rfl, h4⟩ := map_some_split h2
          rw [nfA, nfA, ihu v [] [] [] [] (by simpa using h3) (by simpa using h4)]
theorem nf_of_asks {u v : List Un} (h1 : asks u = asks v) (h2 : asks (inv u) = asks (inv v)) : nf u = nf v :=
  nfA_det2 u v [] [] [] [] (by simpa using h1) (by simpa using h2)
theorem asks_of_nf {u v : List Un} (h : nf u = nf v) : asks u = asks v := by
  have := sense_iff.mp h
  exact congrArg Prod.fst this
theorem asksI_of_nf {u v : List Un} (h : nf u = nf v) : asks (inv u) = asks (inv v) := by
  have h1 := congrArg Prod.fst (sense_inv_nf u)
  have h2 := congrArg Prod.fst (sense_inv_nf v)
  simp only [sense] at h1 h2
  rw [← h1, h, h2]
theorem nf_iff {u v : List Un} : nf u = nf v ↔ asks u = asks v ∧ asks (inv u) = asks (inv v) :=
  ⟨fun h => ⟨asks_of_nf h, asksI_of_nf h⟩, fun h => nf_of_asks h.1 h.2⟩
theorem nf_inv {u v : List Un} (h : nf u = nf v) : nf (inv u) = nf (inv v) :=
  nf_of_asks (asksI_of_nf h) (by rw [inv_inv, inv_inv]; exact asks_of_nf h)
theorem asksI_len (u : List Un) : (asks (inv u)).length = aft u := by rw [asks_len, bef_inv]
/-! ### what holds of it -/
theorem Th.ex {a b : List Un} (h : Mt (M.asks (M.inv a)) (M.asks b)) : ∃ r, thn a b = some r ∧ Th a b r := by
  obtain ⟨r, hr⟩ := (thn_iff a b).mpr h
  exact ⟨r, hr, thn_th a b r hr⟩
theorem Th.mt {a b r : List Un} (h : Th a b r) : Mt (M.asks (M.inv a)) (M.asks b) := by
  induction h <;> simp_all [ask, Mt]
theorem Th.congr {a b a' b' r r' : List Un} (h : Th a b r) (h' : Th a' b' r') (ha : nf a = nf a') (hb : nf b = nf b') : nf r = nf r' := by
  refine nf_of_asks ?_ ?_
  · rw [h.asks, h'.asks, asks_of_nf hb]
    exact cA_congr ha _ (by rw [asks_len, ← asks_of_nf hb |> fun e => (by rw [← asks_len, ← asks_len, e] : M.bef b = M.bef b'), h.mid])
  · rw [h.asksI, h'.asksI, asksI_of_nf ha]
    exact cA_congr (nf_inv hb) _ (by rw [asksI_len, aft_inv, h'.mid, ← asks_len, ← asks_len, asks_of_nf hb])
theorem Th.assoc {a b c ab bc r r' : List Un} (h1 : Th a b ab) (h2 : Th ab c r) (h3 : Th b c bc) (h4 : Th a bc r') : nf r = nf r' := by
  refine nf_of_asks ?_ ?_
  · rw [h2.asks, h4.asks, h3.asks, h1.cA _ (by rw [asks_len, h2.mid])]
  · obtain ⟨q, k1, k2, k3⟩ := h3.inv
    have e : nf (M.inv bc) = nf q := nf_of_asks k2.symm (by rw [k3, inv_inv])
    rw [h2.asksI, h4.asksI, h1.asksI, cA_congr e _ (by rw [asksI_len, aft_inv, h4.mid]), k1.cA _ (by rw [asksI_len, k1.aft, aft_inv, h1.mid])]
theorem Th.fit {a b r : List Un} (h : Th a b r) : ∀ {t : Tx}, Fit a t → Fit b (mk a t) → Fit r t ∧ mk r t = mk b (mk a t) := by
  induction h with
  | dd h ih => intro t h1 h2; cases t with
    | nil => exact h1.elim
    | cons x t => have := ih h1.2 h2; exact ⟨⟨h1.1, this.1⟩, this.2⟩
  | pp h ih => intro t h1 h2; have := ih h1 h2; exact ⟨this.1, by simp [mk, this.2]⟩
  | nl => intro t h1 h2; exact ⟨h1, rfl⟩
  | kk h ih => intro t h1 h2; cases t with
    | nil => exact h1.elim
    | cons x t => have := ih (t := t) h1 h2; exact ⟨this.1, by simp [mk, this.2]⟩
  | kd h ih => intro t h1 h2; cases t with
    | nil => exact h1.elim
    | cons x t => have := ih (t := t) h1 h2.2; exact ⟨⟨h2.1, this.1⟩, by simp [mk, this.2]⟩
  | pk h ih => intro t h1 h2; have := ih (t := t) h1 h2; exact ⟨this.1, by simp [mk, this.2]⟩
  | pd h ih => intro t h1 h2; have := ih (t := t) h1 h2.2; exact ⟨this.1, by simp [mk, this.2]⟩
/-- two that fit, one behind the other -/
theorem Th.of_fit {a b : List Un} {t : Tx} (h : Fit a t) (h' : Fit b (mk a t)) : ∃ r, thn a b = some r ∧ Th a b r :=
  Th.ex (Mt.fit ((fit_iff _ _).mp (fit_inv h).1) ((fit_iff _ _).mp h'))
theorem Th.nl_l (a : List Un) : Th (List.replicate (M.bef a) .k) a a := by
  induction a with
  | nil => exact .nl
  | cons u a ih =>
    cases u with
    | p c => rw [bef_p]; exact .pp ih
    | k => rw [bef_k, List.replicate_succ]; exact .kk ih
    | d c => rw [bef_d, List.replicate_succ]; exact .kd ih
theorem Th.nl_r (a : List Un) : Th a (List.replicate (M.aft a) .k) a := by
  induction a with
  | nil => exact .nl
  | cons u a ih =>
    cases u with
    | p c => rw [aft_p, List.replicate_succ]; exact .pk ih
    | k => rw [aft_k, List.replicate_succ]; exact .kk ih
    | d c => rw [aft_d]; exact .dd ih
theorem Th.det {a b r : List Un} (h : Th a b r) {r' : List Un} (h' : Th a b r') : nf r = nf r' := h.congr h' rfl rfl
/-- keeps all, drops and puts again -/
def hold : List (Option Char) → List Un
  | [] => []
  | none :: a => .k :: hold a
  | some c :: a => .d c :: .p c :: hold a
theorem asks_hold (a : List (Option Char)) : asks (hold a) = a := by
  induction a with
  | nil => rfl
  | cons x a ih => cases x <;> simp [hold, ask, ih]
theorem asksI_hold (a : List (Option Char)) : asks (inv (hold a)) = a := by
  induction a with
  | nil => rfl
  | cons x a ih => cases x <;> simp [hold, ask, ih]
def pkT (p : Option Char × Nat) : Nat ⊕ Char := match p.1 with
  | none => .inl p.2
  | some c => .inr c
theorem told_hold (a : List (Option Char)) : ∀ i, told i (hold a) = (a.zipIdx i).map pkT := by
  induction a with
  | nil => intro i; rfl
  | cons x a ih => intro i; cases x <;> simp [hold, told, ih, pkT]
theorem cA_self (a : List Un) : cA a (asks (inv a)) = asks a := by
  induction a with
  | nil => rfl
  | cons u a ih => cases u <;> simp [ask, cA, ih]
theorem cA_hold (A : List (Option Char)) : cA (hold A) A = A := by
  induction A with
  | nil => rfl
  | cons x A ih => cases x <;> simp [hold, cA, ih]
theorem still_nf {a r : List Un} (h : Th a (M.inv a) r) : nf r = nf (hold (M.asks a)) :=
  nf_of_asks (by rw [h.asks, cA_self, asks_hold]) (by rw [h.asksI, inv_inv, cA_self, asksI_hold])
end G81.M

/-! What fits, done, undone, nothing, then, all_then answer. -/
namespace G81
open PySem M
noncomputable section
@[simp] theorem sh_lst0 : shD (.lst []) = true := by rw [shD_iff]; simp
@[simp] theorem sh_tup0 : shD (.tup []) = true := by rw [shD_iff]; simp
theorem dNe_00 : dNe (.lst []) (.lst []) = .ok false := by rw [dNe_sh sh_lst0 sh_lst0]; simp
theorem dEq_00 : dEq (.lst []) (.lst []) = .ok true := by rw [dEq_sh sh_lst0 sh_lst0]; simp
theorem dNe_us (u : Un) (us : List Un) : dNe (.lst (encU u :: us.map encU)) (.lst []) = .ok true := en_Us.dNe (by decide) (u :: us) []
theorem dEq_us (u : Un) (us : List Un) : dEq (.lst (encU u :: us.map encU)) (.lst []) = .ok false := en_Us.dEq (by decide) (u :: us) []
theorem f_nothing_eq (n : Nat) (h : n ≤ 100000) : f_nothing [.int n] = .ok (encC (ou (List.replicate n .k))) := by
  have h2 : startE N_nothing [.int n] = [some (.int n)] := rfl
  have h1 : repOk 1 n := repOkN 1 n (by omega)
  have h3 := f_of_units_eq (List.replicate n .k) (by simp; omega)
  simp [encUs, encU] at h3
  simp [f_nothing, s_nothing, h2, h1, h3]
theorem fits_loop (C : Option D) : ∀ (us : List Un) (s r : Tx) (x y : Option D), s.length + r.length ≤ 100000 → bef us = r.length →
    (Fit us r → ∃ x' y', forF (tsT [3, 4]) b_fits_0 (us.map encU) [C, some (.str (s ++ r)), some (.int s.length), x, y] = .nx [C, some (.str (s ++ r)), some (.int ((s ++ r).length : Nat)), x', y']) ∧
    (¬ Fit us r → forF (tsT [3, 4]) b_fits_0 (us.map encU) [C, some (.str (s ++ r)), some (.int s.length), x, y] = .rt (.bl false)) := by
  intro us
  induction us with
  | nil =>
    intro s r x y hl hb
    have : r = [] := List.eq_nil_of_length_eq_zero (by rw [← hb]; rfl)
    subst this
    exact ⟨fun _ => ⟨x, y, by simp⟩, fun h => absurd rfl h⟩
  | cons u us ih =>
    intro s r x y hl hb
    have lv := line_v
    rw [List.map_cons]
    simp only [forF_step]
    cases u with
    | p c =>
      have hb : bef us = r.length := by simpa [bef, List.filter_cons] using hb
      have e : sOf (tsT [3, 4] (encU (.p c)) [C, some (.str (s ++ r)), some (.int s.length), x, y]) b_fits_0 = .nx [C, some (.str (s ++ r)), some (.int s.length), some (.str ['p','u','t']), some (.str [c])] := by
        simp [b_fits_0, encU]
      rw [e]
      exact ih s r _ _ hl hb
    | k =>
      cases r with
      | nil => simp [bef, List.filter_cons] at hb
      | cons c r =>
        have hb : bef us = r.length := by simpa [bef, List.filter_cons] using hb
        have e : sOf (tsT [3, 4] (encU .k) [C, some (.str (s ++ c :: r)), some (.int s.length), x, y]) b_fits_0 = .nx [C, some (.str (s ++ c :: r)), some (.int (s.length + 1 : Nat)), some (.str ['k','e','e','p']), some (.str [])] := by
          simp [b_fits_0, encU]
        rw [e]
        have := ih (s ++ [c]) r (some (.str ['k','e','e','p'])) (some (.str [])) (by simp at hl ⊢; omega) hb
        simpa [Fit] using this
    | d z =>
      cases r with
      | nil => simp [bef, List.filter_cons] at hb
      | cons c r =>
        have hb' : bef us = r.length := by simpa [bef, List.filter_cons] using hb
        have hix : dIx (.str (s ++ c :: r)) (.int s.length) = .ok (.str [c]) := by
          rw [dIx_nat_str _ _ (by simp at hl ⊢; omega)]; simp
        by_cases hz : z = c
        · subst hz
          have e : sOf (tsT [3, 4] (encU (.d z)) [C, some (.str (s ++ z :: r)), some (.int s.length), x, y]) b_fits_0 = .nx [C, some (.str (s ++ z :: r)), some (.int (s.length + 1 : Nat)), some (.str ['d','r','o','p']), some (.str [z])] := by
            simp [b_fits_0, encU, hix]
          rw [e]
          have := ih (s ++ [z]) r (some (.str ['d','r','o','p'])) (some (.str [z])) (by simp at hl ⊢; omega) hb'
          simpa [Fit] using this
        · have e : sOf (tsT [3, 4] (encU (.d z)) [C, some (.str (s ++ c :: r)), some (.int s.length), x, y]) b_fits_0 = .rt (.bl false) := by
            have hz2 : ¬ c = z := fun q => hz q.symm
            simp [b_fits_0, encU, hix, hz2]
          rw [e]
          exact ⟨fun h => absurd h.1 hz, fun _ => rfl⟩
open Classical in
theorem f_fits_eq (c : List Pt) (t : Tx) (h : (uns c).length ≤ 100000) (ht : t.length ≤ 100000) : f_fits [encC c, .str t] = .ok (.bl (decide (Fit (uns c) t))) := by
  have h2 : startE N_fits [encC c, .str t] = [some (encC c), some (.str t), none, none, none] := rfl
  have l1 : t.length ≤ line := by rw [line_v]; omega
  by_cases hb : bef (uns c) = t.length
  · obtain ⟨g1, g2⟩ := fits_loop (some (encC c)) (uns c) [] t none none (by simpa using ht) hb
    simp at g1 g2
    by_cases hf : Fit (uns c) t
    · obtain ⟨x', y', g⟩ := g1 hf
      simp [f_fits, s_fits, h2, f_before_eq c h, f_units_of_eq c h, l1, hb, encUs, g, hf]
    · simp [f_fits, s_fits, h2, f_before_eq c h, f_units_of_eq c h, l1, hb, encUs, g2 hf, hf]
  · have hf : ¬ Fit (uns c) t := fun z => hb z.len
    have hb2 : ¬ ((bef (uns c) : Int) = t.length) := by omega
    simp [f_fits, s_fits, h2, f_before_eq c h, l1, hb2, hf]
theorem done_loop (C : Option D) : ∀ (us : List Un) (s r f : Tx) (x y : Option D), s.length + r.length ≤ 100000 → f.length + us.length ≤ 200000 → Fit us r →
    ∃ x' y', forF (tsT [4, 5]) b_done_0 (us.map encU) [C, some (.str (s ++ r)), some (.int s.length), some (.str f), x, y] = .nx [C, some (.str (s ++ r)), some (.int ((s ++ r).length : Nat)), some (.str (f ++ mk us r)), x', y'] := by
  intro us
  induction us with
  | nil => intro s r f x y hl hf h; simp only [Fit] at h; subst h; exact ⟨x, y, by simp [mk]⟩
  | cons u us ih =>
    intro s r f x y hl hf h
    have lv := line_v
    have l1 : f.length + 1 ≤ line := by simp at hf; omega
    have l2 : f.length ≤ line := by omega
    rw [List.map_cons]
    simp only [forF_step]
    cases u with
    | p c =>
      have e : sOf (tsT [4, 5] (encU (.p c)) [C, some (.str (s ++ r)), some (.int s.length), some (.str f), x, y]) b_done_0 = .nx [C, some (.str (s ++ r)), some (.int s.length), some (.str (f ++ [c])), some (.str ['p','u','t']), some (.str [c])] := by
        simp [b_done_0, encU, l1]
      rw [e]
      obtain ⟨x', y', g⟩ := ih s r (f ++ [c]) (some (.str ['p','u','t'])) (some (.str [c])) hl (by simp at hf ⊢; omega) h
      exact ⟨x', y', by simpa [mk] using g⟩
    | k =>
      cases r with
      | nil => exact h.elim
      | cons c r =>
        have hix : dIx (.str (s ++ c :: r)) (.int s.length) = .ok (.str [c]) := by
          rw [dIx_nat_str _ _ (by simp at hl ⊢; omega)]; simp
        have e : sOf (tsT [4, 5] (encU .k) [C, some (.str (s ++ c :: r)), some (.int s.length), some (.str f), x, y]) b_done_0 = .nx [C, some (.str (s ++ c :: r)), some (.int (s.length + 1 : Nat)), some (.str (f ++ [c])), some (.str ['k','e','e','p']), some (.str [])] := by
          simp [b_done_0, encU, l1, hix]
        rw [e]
        obtain ⟨x', y', g⟩ := ih (s ++ [c]) r (f ++ [c]) (some (.str ['k','e','e','p'])) (some (.str [])) (by simp at hl ⊢; omega) (by simp at hf ⊢; omega) h
        exact ⟨x', y', by simpa [mk] using g⟩
    | d z =>
      cases r with
      | nil => exact h.elim
      | cons c r =>
        have e : sOf (tsT [4, 5] (encU (.d z)) [C, some (.str (s ++ c :: r)), some (.int s.length), some (.str f), x, y]) b_done_0 = .nx [C, some (.str (s ++ c :: r)), some (.int (s.length + 1 : Nat)), some (.str f), some (.str ['d','r','o','p']), some (.str [z])] := by
          simp [b_done_0, encU, l2]
        rw [e]
        obtain ⟨x', y', g⟩ := ih (s ++ [c]) r f (some (.str ['d','r','o','p'])) (some (.str [z])) (by simp at hl ⊢; omega) (by simp at hf ⊢; omega) h.2
        exact ⟨x', y', by simpa [mk] using g⟩
theorem f_done_eq (c : List Pt) (t : Tx) (h : (uns c).length ≤ 100000) (ht : t.length ≤ 100000) (hf : Fit (uns c) t) : f_done [encC c, .str t] = .ok (.str (made (uns c) t)) := by
  have h2 : startE N_done [encC c, .str t] = [some (encC c), some (.str t), none, none, none, none] := rfl
  obtain ⟨x', y', g⟩ := done_loop (some (encC c)) (uns c) [] t [] none none (by simpa using ht) (by simp; omega) hf
  simp at g
  simp [f_done, s_done, h2, f_fits_eq c t h ht, hf, f_units_of_eq c h, encUs, g, made_mk _ _ hf]
theorem f_done_no (c : List Pt) (t : Tx) (h : (uns c).length ≤ 100000) (ht : t.length ≤ 100000) (hf : ¬ Fit (uns c) t) : f_done [encC c, .str t] = .err "NoFit" := by
  have h2 : startE N_done [encC c, .str t] = [some (encC c), some (.str t), none, none, none, none] := rfl
  simp [f_done, s_done, h2, f_fits_eq c t h ht, hf]
theorem f_undone_eq (c : List Pt) (h : (uns c).length ≤ 100000) : f_undone [encC c] = .ok (encC (ou (inv (uns c)))) := by
  have h2 : startE N_undone [encC c] = [some (encC c), none, none, none] := rfl
  have l : (uns c).length ≤ line := by rw [line_v]; omega
  have hlc := lcF_map (tgt := tsT [2, 3]) (tst := tTrue) (elt := eTup (aCons (eOp dGetD (eVar 1) (eVar 2)) (aCons (eVar 3) aNil))) (env := [some (encC c), some (.dic [.inr ['k','e','e','p'], .inr ['p','u','t'], .inr ['d','r','o','p']] [.str ['k','e','e','p'], .str ['d','r','o','p'], .str ['p','u','t']]), none, none]) encU (fun u => encU (iv u)) (uns c) (fun u _ => by
    cases u <;> exact ⟨_, rfl, rfl, by simp [encU, dGetD, keyD, dLook]⟩)
  have e2 : (uns c).map (fun u => encU (iv u)) = (inv (uns c)).map encU := by simp [inv, Function.comp_def]
  rw [e2] at hlc
  have h3 := f_of_units_eq (inv (uns c)) (by simp; omega)
  simp [encUs] at h3
  simp [f_undone, s_undone, h2, eDict, f_units_of_eq c h, encUs, l] at hlc ⊢
  simp [hlc, h3]
end
end G81

/-! What then, all_then, _law_made answer. -/
namespace G81
open PySem M
theorem sh_tup2 (a b : Tx) (us : List Un) : shD (.lst (.tup [.str a, .str b] :: us.map encU)) = true := by
  have h1 := en_U.cms us
  have h2 := en_U.dps us
  rw [shD_iff]; simp [h1]; omega
@[simp] theorem dNe_t2 (a b : Tx) (us : List Un) : dNe (.lst (.tup [.str a, .str b] :: us.map encU)) (.lst []) = .ok true := by
  rw [dNe_sh (sh_tup2 a b us) sh_lst0]; simp
@[simp] theorem dEq_t2 (a b : Tx) (us : List Un) : dEq (.lst (.tup [.str a, .str b] :: us.map encU)) (.lst []) = .ok false := by
  rw [dEq_sh (sh_tup2 a b us) sh_lst0]; simp
@[simp] theorem dNe_nn : dNe (.lst []) (.lst []) = .ok false := dNe_00
@[simp] theorem dEq_nn : dEq (.lst []) (.lst []) = .ok true := dEq_00
@[simp] theorem dNe_n (us : List Un) : dNe (.lst (us.map encU)) (.lst []) = .ok (!decide (us = [])) := en_Us.dNe (by decide) us []
@[simp] theorem dEq_n (us : List Un) : dEq (.lst (us.map encU)) (.lst []) = .ok (decide (us = [])) := en_Us.dEq (by decide) us []
theorem met_k (x : Un) : f_met [encU .k, encU x] = .ok (.lst [encU x]) := by
  have h2 : startE N_met [encU .k, encU x] = [some (encU .k), some (encU x)] := rfl
  simp only [f_met, s_met, h2]
  cases x <;> simp [encU]
theorem met_pk (c : Char) : f_met [encU (.p c), encU .k] = .ok (.lst [encU (.p c)]) := by
  have h2 : startE N_met [encU (.p c), encU .k] = [some (encU (.p c)), some (encU .k)] := rfl
  simp only [f_met, s_met, h2]
  simp [encU]
theorem met_pd (c x : Char) : f_met [encU (.p c), encU (.d x)] = if c = x then .ok (.lst []) else .err "NoFit" := by
  have h2 : startE N_met [encU (.p c), encU (.d x)] = [some (encU (.p c)), some (encU (.d x))] := rfl
  simp only [f_met, s_met, h2]
  by_cases h : c = x <;> simp [encU, h]
def thenC : Ev → R Bool := (tOrF (tCm dNe (eVar 2) (eLst aNil)) (tCm dNe (eVar 3) (eLst aNil)))
theorem thenC_eq (A B F : Option D) (m y : List Un) : thenC [A, B, some (.lst (m.map encU)), some (.lst (y.map encU)), F] = .ok (!decide (m = [] ∧ y = [])) := by
  cases m <;> cases y <;> simp [thenC, dNe_us]
theorem then_loop (A B : Option D) : ∀ (m y f : List Un), f.length + m.length + y.length ≤ 400000 → 
    sWh thenC b_then_0 [A, B, some (.lst (m.map encU)), some (.lst (y.map encU)), some (.lst (f.map encU))] =
    match thn m y with | some r => .nx [A, B, some (.lst []), some (.lst []), some (.lst ((f ++ r).map encU))] | none => .er "NoFit" := by
  intro m y
  have lv := line_v
  induction m, y using thn.induct <;> intro f hl <;> rw [thn]
  case case1 c m y ih =>
    have l1 : f.length < line := by simp at hl; omega
    rw [sWh_true (e2 := [A, B, some (.lst (m.map encU)), some (.lst (y.map encU)), some (.lst ((f ++ [Un.d c]).map encU))]) (by rw [thenC_eq]; simp) (by simp [b_then_0, encU, xPop0, popH, l1])]
    rw [ih _ (by simp at hl ⊢; omega)]
    cases thn m y <;> simp
  case case2 c y ih =>
    have l1 : f.length < line := by simp at hl; omega
    rw [sWh_true (e2 := [A, B, some (.lst (List.map encU [])), some (.lst (y.map encU)), some (.lst ((f ++ [Un.p c]).map encU))]) (by rw [thenC_eq]; simp) (by simp [b_then_0, encU, xPop0, popH, l1])]
    rw [ih _ (by simp at hl ⊢; omega)]
    cases thn [] y <;> simp
  case case3 m c y ih =>
    have l1 : f.length < line := by simp at hl; omega
    rw [sWh_true (e2 := [A, B, some (.lst (List.map encU (.k :: m))), some (.lst (y.map encU)), some (.lst ((f ++ [Un.p c]).map encU))]) (by rw [thenC_eq]; simp) (by simp [b_then_0, encU, xPop0, popH, l1])]
    rw [ih _ (by simp at hl ⊢; omega)]
    cases thn (.k :: m) y <;> simp
  case case4 x m c y ih =>
    have l1 : f.length < line := by simp at hl; omega
    rw [sWh_true (e2 := [A, B, some (.lst (List.map encU (.p x :: m))), some (.lst (y.map encU)), some (.lst ((f ++ [Un.p c]).map encU))]) (by rw [thenC_eq]; simp) (by simp [b_then_0, encU, xPop0, popH, l1])]
    rw [ih _ (by simp at hl ⊢; omega)]
    cases thn (.p x :: m) y <;> simp
  case case5 =>
    rw [sWh_false (by rw [thenC_eq]; simp)]; simp
  case case6 y =>
    exact sWh_end (by rw [thenC_eq]; simp) (by simp [b_then_0, encU]) (by simp)
  case case7 c y =>
    exact sWh_end (by rw [thenC_eq]; simp) (by simp [b_then_0, encU]) (by simp)
  case case8 m =>
    exact sWh_end (by rw [thenC_eq]; simp) (by simp [b_then_0, encU]) (by simp)
  case case9 c m =>
    exact sWh_end (by rw [thenC_eq]; simp) (by simp [b_then_0, encU]) (by simp)
  case case10 m y ih =>
    have l1 : f.length + 1 ≤ line := by simp at hl; omega
    have hm := met_k .k
    simp [encU] at hm
    rw [sWh_true (e2 := [A, B, some (.lst (m.map encU)), some (.lst (y.map encU)), some (.lst ((f ++ [Un.k]).map encU))]) (by rw [thenC_eq]; simp) (by simp [b_then_0, encU, xCall, xaCons, xaNil, xPop0, popH, l1, hm])]
    rw [ih _ (by simp at hl ⊢; omega)]
    cases thn m y <;> simp
  case case11 m c y ih =>
    have l1 : f.length + 1 ≤ line := by simp at hl; omega
    have hm := met_k (.d c)
    simp [encU] at hm
    rw [sWh_true (e2 := [A, B, some (.lst (m.map encU)), some (.lst (y.map encU)), some (.lst ((f ++ [Un.d c]).map encU))]) (by rw [thenC_eq]; simp) (by simp [b_then_0, encU, xCall, xaCons, xaNil, xPop0, popH, l1, hm])]
    rw [ih _ (by simp at hl ⊢; omega)]
    cases thn m y <;> simp
  case case12 c m y ih =>
    have l1 : f.length + 1 ≤ line := by simp at hl; omega
    have hm := met_pk c
    simp [encU] at hm
    rw [sWh_true (e2 := [A, B, some (.lst (m.map encU)), some (.lst (y.map encU)), some (.lst ((f ++ [Un.p c]).map encU))]) (by rw [thenC_eq]; simp) (by simp [b_then_0, encU, xCall, xaCons, xaNil, xPop0, popH, l1, hm])]
    rw [ih _ (by simp at hl ⊢; omega)]
    cases thn m y <;> simp
  case case13 m x y ih =>
    have l1 : f.length ≤ line := by simp at hl; omega
    have hm := met_pd x x
    simp [encU] at hm
    rw [if_pos rfl]
    rw [sWh_true (e2 := [A, B, some (.lst (m.map encU)), some (.lst (y.map encU)), some (.lst (f.map encU))]) (by rw [thenC_eq]; simp) (by simp [b_then_0, encU, xCall, xaCons, xaNil, xPop0, popH, l1, hm])]
    rw [ih _ (by simp at hl ⊢; omega)]
  case case14 c m x y hx =>
    have hm := met_pd c x
    simp [encU, hx] at hm
    rw [if_neg hx]
    exact sWh_end (by rw [thenC_eq]; simp) (by simp [b_then_0, encU, xCall, xaCons, xaNil, xPop0, popH, hm]) (by simp)
theorem f_then_eq (a b : List Pt) (ha : (uns a).length ≤ 50000) (hb : (uns b).length ≤ 50000) : f_then [encC a, encC b] = match thn (uns a) (uns b) with | some r => .ok (encC (ou r)) | none => .err "NoFit" := by
  have h2 : startE N_then [encC a, encC b] = [some (encC a), some (encC b), none, none, none] := rfl
  have h3 := then_loop (some (encC a)) (some (encC b)) (uns a) (uns b) [] (by simp; omega)
  simp only [f_then, s_then, h2]
  rw [show (tOrF (tCm dNe (eVar 2) (eLst aNil)) (tCm dNe (eVar 3) (eLst aNil))) = thenC from rfl]
  simp [f_units_of_eq a (by omega), f_units_of_eq b (by omega), encUs] at h3 ⊢
  cases hr : thn (uns a) (uns b) with
  | none => rw [hr] at h3; simp [h3]
  | some r =>
    rw [hr] at h3
    have h4 := f_of_units_eq r (by have := (thn_th _ _ _ hr).len; omega)
    simp [encUs] at h3 h4
    simp [h3, h4]
end G81

/-! What all_then, _law_made answer. -/
namespace G81
namespace M
/-- a row, one behind the other -/
def allT (f : List Pt) : List (List Pt) → Option (List Pt)
  | [] => some f
  | c :: cs => (thn (uns f) (uns c)).bind fun r => allT (ou r) cs
def sumL (cs : List (List Pt)) : Nat := (cs.map fun c => (uns c).length).sum
@[simp] theorem sumL_nil : sumL [] = 0 := rfl
@[simp] theorem sumL_cons (c : List Pt) (cs : List (List Pt)) : sumL (c :: cs) = (uns c).length + sumL cs := by simp [sumL]
theorem fit_kk (n : Nat) (us : List Un) : ∀ t : Tx, Fit (List.replicate n .k ++ us) t ↔ n ≤ t.length ∧ Fit us (t.drop n) := by
  induction n with
  | zero => intro t; simp
  | succ n ih =>
    intro t
    cases t with
    | nil => simp [List.replicate_succ, Fit]
    | cons c t => simp [List.replicate_succ, Fit, ih]
theorem fit_dd (s : Tx) (us : List Un) : ∀ t : Tx, Fit (s.map .d ++ us) t ↔ t.take s.length = s ∧ Fit us (t.drop s.length) := by
  induction s with
  | nil => intro t; simp
  | cons x s ih =>
    intro t
    cases t with
    | nil => simp [Fit]
    | cons c t => simp [Fit, ih]; exact ⟨fun ⟨a, b, d⟩ => ⟨⟨a.symm, b⟩, d⟩, fun ⟨⟨a, b⟩, d⟩ => ⟨a.symm, b, d⟩⟩
theorem fit_pp (s : Tx) (us : List Un) (t : Tx) : Fit (s.map .p ++ us) t ↔ Fit us t := by
  induction s with
  | nil => simp
  | cons x s ih => simpa [Fit] using ih
theorem mk_kk (n : Nat) (us : List Un) : ∀ t : Tx, n ≤ t.length → mk (List.replicate n .k ++ us) t = t.take n ++ mk us (t.drop n) := by
  induction n with
  | zero => intro t h; simp
  | succ n ih =>
    intro t h
    cases t with
    | nil => simp at h
    | cons c t => simp at h; simp [List.replicate_succ, mk, ih t h]
theorem mk_dd (s : Tx) (us : List Un) : ∀ t : Tx, s.length ≤ t.length → mk (s.map .d ++ us) t = mk us (t.drop s.length) := by
  induction s with
  | nil => intro t h; simp
  | cons x s ih =>
    intro t h
    cases t with
    | nil => simp at h
    | cons c t => simp at h; simp [mk, ih t h]
theorem mk_pp (s : Tx) (us : List Un) (t : Tx) : mk (s.map .p ++ us) t = s ++ mk us t := by
  induction s with
  | nil => simp
  | cons x s ih => simpa [mk] using ih
end M
open PySem M
theorem all_then_loop (A B : Option D) : ∀ (cs : List (List Pt)) (f : List Pt) (x : Option D), (uns f).length + sumL cs ≤ 50000 →
    match allT f cs with | some r => ∃ x', forF (tsN 3) b_all_then_0 (cs.map encC) [A, B, some (encC f), x] = .nx [A, B, some (encC r), x'] | none => forF (tsN 3) b_all_then_0 (cs.map encC) [A, B, some (encC f), x] = .er "NoFit"
  | [], f, x, _ => ⟨x, rfl⟩
  | c :: cs, f, x, h => by
    simp only [sumL_cons] at h
    rw [allT, List.map_cons]
    simp only [forF_step]
    have h1 := f_then_eq f c (by omega) (by omega)
    cases hr : thn (uns f) (uns c) with
    | none =>
      rw [hr] at h1
      simp [b_all_then_0, h1]
    | some r =>
      rw [hr] at h1
      have hl := (thn_th _ _ _ hr).len
      have ih := all_then_loop A B cs (ou r) (some (encC c)) (by rw [ou_len]; omega)
      have e : sOf (tsN 3 (encC c) [A, B, some (encC f), x]) b_all_then_0 = .nx [A, B, some (encC (ou r)), some (encC c)] := by
        simp [b_all_then_0, h1]
      rw [e]
      exact ih
theorem f_all_then_eq (n : Nat) (cs : List (List Pt)) (h : n + sumL cs ≤ 50000) : f_all_then [.int n, .lst (cs.map encC)] = match allT (ou (List.replicate n .k)) cs with | some r => .ok (encC r) | none => .err "NoFit" := by
  have h2 : startE N_all_then [.int n, .lst (cs.map encC)] = [some (.int n), some (.lst (cs.map encC)), none, none] := rfl
  have h3 := all_then_loop (some (.int n)) (some (.lst (cs.map encC))) cs (ou (List.replicate n .k)) none (by rw [ou_len]; simpa using h)
  simp only [f_all_then, s_all_then, h2]
  cases hr : allT (ou (List.replicate n .k)) cs with
  | none => rw [hr] at h3; simp [f_nothing_eq n (by omega), h3]
  | some r =>
    rw [hr] at h3
    obtain ⟨x', h3⟩ := h3
    simp [f_nothing_eq n (by omega), h3]
theorem made_loop (A : Option D) (t : Tx) (ht : t.length ≤ 10000) : ∀ (c : List Pt) (p : Nat) (f : Tx) (x y : Option D), f.length + (uns c).length ≤ 100000 →
    ((p ≤ t.length ∧ Fit (uns c) (t.drop p)) → ∃ x' y', forF (tsT [4, 5]) b__law_made_0 (c.map encP) [A, some (.str t), some (.int p), some (.str f), x, y] = .nx [A, some (.str t), some (.int t.length), some (.str (f ++ mk (uns c) (t.drop p))), x', y']) ∧
    (¬ (p ≤ t.length ∧ Fit (uns c) (t.drop p)) → forF (tsT [4, 5]) b__law_made_0 (c.map encP) [A, some (.str t), some (.int p), some (.str f), x, y] = .rt .non ∨
      ∃ q f' x' y', forF (tsT [4, 5]) b__law_made_0 (c.map encP) [A, some (.str t), some (.int p), some (.str f), x, y] = .nx [A, some (.str t), some (.int (q : Nat)), f', x', y'] ∧ q ≠ t.length)
  | [], p, f, x, y, h => by
    refine ⟨fun ⟨h1, h2⟩ => ?_, fun h1 => .inr ⟨p, _, x, y, rfl, fun e => h1 ⟨by omega, ?_⟩⟩⟩
    · have h2 : t.drop p = [] := h2
      have hp : p = t.length := by have := congrArg List.length h2; simp at this; omega
      subst hp
      exact ⟨x, y, by simp [mk]⟩
    · show t.drop p = []
      rw [e]; simp
  | c :: cs, p, f, x, y, h => by
    have lv := line_v
    have l0 : t.length ≤ line := by omega
    simp only [uns_cons, List.length_append] at h
    rw [List.map_cons]
    simp only [forF_step]
    cases c with
    | keep n =>
      simp only [unP, List.length_replicate] at h
      have c1 : cutL t (some (p : Int)) (some ((p : Int) + n)) = (t.drop p).take n := by
        have := cutL_mid t p (p + n); rw [Nat.add_sub_cancel_left] at this; simpa using this
      have l1 : f.length + min n (t.length - p) ≤ line := by omega
      have e : sOf (tsT [4, 5] (encP (.keep n)) [A, some (.str t), some (.int p), some (.str f), x, y]) b__law_made_0 = .nx [A, some (.str t), some (.int (p + n : Nat)), some (.str (f ++ (t.drop p).take n)), some (.str ['k','e','e','p']), some (.int n)] := by
        simp [b__law_made_0, encP, c1, l0, l1]
      rw [e]
      have ih := made_loop A t ht cs (p + n) (f ++ (t.drop p).take n) (some (.str ['k','e','e','p'])) (some (.int n)) (by simp; omega)
      simp only [uns_cons, unP, fit_kk, List.length_drop, List.drop_drop]
      refine ⟨fun ⟨h1, h2, h3⟩ => ?_, fun h1 => ih.2 fun ⟨h2, h3⟩ => h1 ⟨by omega, by omega, h3⟩⟩
      obtain ⟨x', y', g⟩ := ih.1 ⟨by omega, h3⟩
      refine ⟨x', y', ?_⟩
      rw [g, mk_kk _ _ _ (by simp; omega), List.drop_drop]
      simp
    | put s =>
      simp only [unP, List.length_map] at h
      have l1 : f.length + s.length ≤ line := by omega
      have e : sOf (tsT [4, 5] (encP (.put s)) [A, some (.str t), some (.int p), some (.str f), x, y]) b__law_made_0 = .nx [A, some (.str t), some (.int p), some (.str (f ++ s)), some (.str ['p','u','t']), some (.str s)] := by
        simp [b__law_made_0, encP, l1]
      rw [e]
      have ih := made_loop A t ht cs p (f ++ s) (some (.str ['p','u','t'])) (some (.str s)) (by simp; omega)
      simp only [uns_cons, unP, fit_pp, mk_pp]
      simpa using ih
    | drop s =>
      simp only [unP, List.length_map] at h
      have c1 : cutL t (some (p : Int)) (some ((p : Int) + s.length)) = (t.drop p).take s.length := by
        have := cutL_mid t p (p + s.length); rw [Nat.add_sub_cancel_left] at this; simpa using this
      have l1 : s.length ≤ line := by omega
      by_cases hs : (t.drop p).take s.length = s
      · have e : sOf (tsT [4, 5] (encP (.drop s)) [A, some (.str t), some (.int p), some (.str f), x, y]) b__law_made_0 = .nx [A, some (.str t), some (.int (p + s.length : Nat)), some (.str f), some (.str ['d','r','o','p']), some (.str s)] := by
          simp [b__law_made_0, encP, c1, l0, l1, hs]
        rw [e]
        have ih := made_loop A t ht cs (p + s.length) f (some (.str ['d','r','o','p'])) (some (.str s)) (by omega)
        have hl := congrArg List.length hs
        simp at hl
        simp only [uns_cons, unP, fit_dd, List.drop_drop]
        refine ⟨fun ⟨h1, h2, h3⟩ => ?_, fun h1 => ih.2 fun ⟨h2, h3⟩ => h1 ⟨by omega, hs, h3⟩⟩
        obtain ⟨x', y', g⟩ := ih.1 ⟨by omega, h3⟩
        refine ⟨x', y', ?_⟩
        rw [g, mk_dd _ _ _ (by simp; omega), List.drop_drop]
      · have e : sOf (tsT [4, 5] (encP (.drop s)) [A, some (.str t), some (.int p), some (.str f), x, y]) b__law_made_0 = .rt .non := by
          simp [b__law_made_0, encP, c1, l0, l1, hs]
        rw [e]
        refine ⟨fun ⟨h1, h2⟩ => ?_, fun _ => .inl rfl⟩
        simp only [uns_cons, unP, fit_dd] at h2
        exact absurd h2.1 hs
open Classical in
theorem f_made_eq (c : List Pt) (t : Tx) (h : (uns c).length ≤ 10000) (ht : t.length ≤ 10000) : f__law_made [encC c, .str t] = .ok (if Fit (uns c) t then .str (made (uns c) t) else .non) := by
  have h2 : startE N__law_made [encC c, .str t] = [some (encC c), some (.str t), none, none, none, none] := rfl
  have l0 : t.length ≤ line := by have := line_v; omega
  have h3 := made_loop (some (encC c)) t ht c 0 [] none none (by simp; omega)
  simp only [List.drop_zero, Nat.zero_le, true_and, List.nil_append, Int.natCast_zero] at h3
  simp only [f__law_made, s__law_made, h2]
  by_cases hf : Fit (uns c) t
  · obtain ⟨x', y', g⟩ := h3.1 hf
    simp [encC] at g ⊢
    simp [g, hf, l0, made_mk _ _ hf]
  · rcases h3.2 hf with g | ⟨q, f', x', y', g, hq⟩
    · simp [encC] at g ⊢
      simp [g, hf]
    · have hq2 : ¬ ((q : Int) = t.length) := by omega
      simp [encC] at g ⊢
      simp [g, hf, l0, hq2]
end G81

/-! One change behind another, in forms. Plain Lean. -/
namespace G81.M
theorem Th.ex' {a b r a' b' : List Un} (h : Th a b r) (ha : nf a' = nf a) (hb : nf b' = nf b) : ∃ r', Th a' b' r' ∧ nf r' = nf r := by
  obtain ⟨r', _, h1⟩ := Th.ex (a := a') (b := b') (by rw [asksI_of_nf ha, asks_of_nf hb]; exact h.mt)
  exact ⟨r', h1, h1.congr h ha hb⟩
theorem Th.assoc' {a b c ab ab' bc bc' r r' : List Un} (h1 : Th a b ab) (e : nf ab' = nf ab) (h2 : Th ab' c r) (h3 : Th b c bc) (e' : nf bc' = nf bc) (h4 : Th a bc' r') : nf r = nf r' := by
  obtain ⟨r1, k1, e1⟩ := h2.ex' e.symm rfl
  obtain ⟨r2, k2, e2⟩ := h4.ex' rfl e'.symm
  rw [← e1, ← e2]
  exact Th.assoc h1 k1 h3 k2
theorem Th.inv' {a b r a' b' : List Un} (h : Th a b r) (ha : nf a' = nf (M.inv a)) (hb : nf b' = nf (M.inv b)) : ∃ r', Th b' a' r' ∧ nf r' = nf (M.inv r) := by
  obtain ⟨q, k1, k2, k3⟩ := h.inv
  obtain ⟨r', h1, h2⟩ := k1.ex' hb ha
  exact ⟨r', h1, h2.trans (nf_of_asks k2 (by rw [k3, inv_inv]))⟩
theorem fit_of_nf {a b : List Un} {t : Tx} (h : nf a = nf b) : Fit a t ↔ Fit b t := by
  rw [← fit_nf, h, fit_nf]
theorem mk_of_nf {a b : List Un} {t : Tx} (h : nf a = nf b) (hf : Fit a t) : mk a t = mk b t := by
  rw [← made_mk a t hf, ← made_mk b t ((fit_of_nf h).mp hf), ← made_nf, h, made_nf]
theorem bef_of_nf {a b : List Un} (h : nf a = nf b) : bef a = bef b := by rw [← bef_nf, h, bef_nf]
theorem aft_of_nf {a b : List Un} (h : nf a = nf b) : aft a = aft b := by rw [← aft_nf, h, aft_nf]
theorem cst_of_nf {a b : List Un} (h : nf a = nf b) : cst a = cst b := by rw [← cst_nf, h, cst_nf]
theorem nf_uns_ou (r : List Un) : nf (uns (ou r)) = nf r := by rw [uns_ou, nf_nf]
theorem thn_ou {a b r : List Un} (h : Th a b r) : ∃ r', thn a b = some r' ∧ ou r' = ou r := by
  obtain ⟨r', h1⟩ := (thn_iff a b).mpr h.mt
  exact ⟨r', h1, ou_eq.mpr ((thn_th _ _ _ h1).det h)⟩
theorem Fit.aft {us : List Un} {t : Tx} (h : Fit us t) : (mk us t).length = M.aft us := by
  rw [← made_mk us t h, made_len]
/-- put ahead: its undoing and then it is nothing but its holding -/
theorem still_l {a r r' x : List Un} (h : Th a (M.inv a) r) (e : nf x = nf r) (h' : Th x a r') : nf r' = nf a := by
  have e2 : nf x = nf (hold (M.asks a)) := e.trans (still_nf h)
  refine nf_of_asks ?_ ?_
  · rw [h'.asks, cA_congr e2 _ (by rw [asks_len, h'.mid]), cA_hold]
  · rw [h'.asksI, asksI_of_nf e2, asksI_hold]
    have := cA_self (M.inv a)
    rwa [inv_inv] at this
theorem still_r {a r r' x : List Un} (h : Th (M.inv a) a r) (e : nf x = nf r) (h' : Th a x r') : nf r' = nf a := by
  have e2 : nf x = nf (hold (M.asks (M.inv a))) := by
    have h2 : Th (M.inv a) (M.inv (M.inv a)) r := by rw [inv_inv]; exact h
    exact e.trans (still_nf h2)
  refine nf_of_asks ?_ ?_
  · rw [h'.asks, asks_of_nf e2, asks_hold, cA_self]
  · rw [h'.asksI]
    have e3 : nf (M.inv x) = nf (hold (M.asks (M.inv a))) := by
      rw [nf_inv e2]
      exact nf_of_asks (by rw [asksI_hold, asks_hold]) (by rw [inv_inv, asks_hold, asksI_hold])
    rw [cA_congr e3 _ (by rw [asksI_len, aft_inv, h'.mid]), cA_hold]
theorem Th.self_inv (a : List Un) : ∃ r, Th a (M.inv a) r := by
  obtain ⟨r, _, h⟩ := Th.ex (a := a) (b := M.inv a) (Mt.refl _)
  exact ⟨r, h⟩
theorem Th.inv_self (a : List Un) : ∃ r, Th (M.inv a) a r := by
  have := Th.self_inv (M.inv a)
  rwa [inv_inv] at this
theorem sense_hold (A : List (Option Char)) : sense (hold A) = (A, (A.zipIdx).map pkT) := by
  rw [sense, asks_hold, told_hold]
end G81.M

/-! What they answer, by the relation. -/
namespace G81
open PySem M
theorem f_then_th {a b : List Pt} {r : List Un} (h : Th (uns a) (uns b) r) (ha : (uns a).length ≤ 50000) (hb : (uns b).length ≤ 50000) : f_then [encC a, encC b] = .ok (encC (ou r)) := by
  obtain ⟨r', h1, h2⟩ := thn_ou h
  rw [f_then_eq a b ha hb, h1]
  simp [h2]
theorem allT_th {f c : List Pt} {r : List Un} (h : Th (uns f) (uns c) r) (cs : List (List Pt)) : allT f (c :: cs) = allT (ou r) cs := by
  obtain ⟨r', h1, h2⟩ := thn_ou h
  rw [allT, h1, Option.bind_some, h2]
theorem enD_zip (A : List (Option Char)) : ∀ n : Nat, enD n (A.map encA) = (A.zipIdx n).map fun p => .tup [.int p.2, encA p.1] := by
  induction A with
  | nil => intro n; rfl
  | cons x A ih => intro n; simp [enD, ih]
end G81

/-! Rows of changes. Plain Lean. -/
namespace G81.M
def Row (t : Tx) : List (List Pt) → Tx → Prop
  | [], t' => t' = t
  | c :: cs, t' => Fit (uns c) t ∧ Row (mk (uns c) t) cs t'
theorem Row.app {cs ds : List (List Pt)} : ∀ {t m t' : Tx}, Row t cs m → Row m ds t' → Row t (cs ++ ds) t' := by
  induction cs with
  | nil => intro t m t' h h'; simp only [Row] at h; subst h; exact h'
  | cons c cs ih => intro t m t' h h'; exact ⟨h.1, ih h.2 h'⟩
theorem Row.split {cs ds : List (List Pt)} : ∀ {t t' : Tx}, Row t (cs ++ ds) t' → ∃ m, Row t cs m ∧ Row m ds t' := by
  induction cs with
  | nil => intro t t' h; exact ⟨t, rfl, h⟩
  | cons c cs ih => intro t t' h; obtain ⟨m, h1, h2⟩ := ih h.2; exact ⟨m, ⟨h.1, h1⟩, h2⟩
theorem Row.snoc {cs : List (List Pt)} {c : List Pt} {t m : Tx} (h : Row t cs m) (hf : Fit (uns c) m) : Row t (cs ++ [c]) (mk (uns c) m) := h.app ⟨hf, rfl⟩
/-- the change that changes nothing of so many signs -/
def nothing (n : Nat) : List Pt := ou (List.replicate n .k)
@[simp] theorem uns_nothing_len (n : Nat) : (uns (nothing n)).length = n := by simp [nothing, ou_len]
theorem nf_nothing (n : Nat) : nf (uns (nothing n)) = nf (List.replicate n .k) := nf_uns_ou _
theorem form_ou (u : List Un) : form (ou u) = ou u := by
  unfold form; rw [uns_ou, ou_nf]
theorem form_nothing (n : Nat) : form (nothing n) = nothing n := form_ou _
theorem fit_k : ∀ t : Tx, Fit (List.replicate t.length .k) t ∧ mk (List.replicate t.length .k) t = t
  | [] => ⟨rfl, rfl⟩
  | c :: t => ⟨(fit_k t).1, by rw [List.length_cons, List.replicate_succ, mk, (fit_k t).2]⟩
theorem fit_nothing (t : Tx) : Fit (uns (nothing t.length)) t ∧ mk (uns (nothing t.length)) t = t := by
  have h := (fit_of_nf (nf_nothing t.length)).mpr (fit_k t).1
  exact ⟨h, by rw [mk_of_nf (nf_nothing _) h, (fit_k t).2]⟩
theorem th_nothing_l {a : List Un} {t : Tx} (h : Fit a t) : ∃ r, Th (uns (nothing t.length)) a r ∧ nf r = nf a := by
  have T := Th.nl_l a
  rw [h.len] at T
  exact T.ex' (nf_nothing _) rfl
theorem th_nothing_r {a : List Un} {t : Tx} (h : Fit a t) : ∃ r, Th a (uns (nothing (mk a t).length)) r ∧ nf r = nf a := by
  have T := Th.nl_r a
  rw [← h.aft] at T
  exact T.ex' rfl (nf_nothing _)
theorem allT_app (cs ds : List (List Pt)) : ∀ f, allT f (cs ++ ds) = (allT f cs).bind fun g => allT g ds := by
  induction cs with
  | nil => intro f; rfl
  | cons c cs ih =>
    intro f
    rw [List.cons_append, allT, allT]
    cases thn (uns f) (uns c) with
    | none => rfl
    | some r => simp [ih]
structure All (f : List Pt) (s t : Tx) (cs : List (List Pt)) (t' : Tx) (W : List Pt) : Prop where
  eq : allT f cs = some W
  fit : Fit (uns W) s
  made : M.mk (uns W) s = t'
  frm : M.form W = W
  len : (uns W).length ≤ (uns f).length + sumL cs
theorem all_row {cs : List (List Pt)} : ∀ {f : List Pt} {s t t' : Tx}, form f = f → Fit (uns f) s → M.mk (uns f) s = t → Row t cs t' → ∃ W, All f s t cs t' W := by
  induction cs with
  | nil => intro f s t t' hf h1 h2 h3; simp only [Row] at h3; subst h3; exact ⟨f, rfl, h1, h2, hf, by simp⟩
  | cons c cs ih =>
    intro f s t t' hf h1 h2 h3
    obtain ⟨h4, h5⟩ := h3
    obtain ⟨r, _, T⟩ := Th.of_fit (b := uns c) h1 (by rw [h2]; exact h4)
    have hT := T.fit h1 (by rw [h2]; exact h4)
    have k1 : Fit (uns (ou r)) s := (fit_of_nf (nf_uns_ou r)).mpr hT.1
    obtain ⟨W, a1, a2, a3, a4, a5⟩ := ih (f := ou r) (s := s) (form_ou r) k1 rfl (by rw [mk_of_nf (nf_uns_ou r) k1, hT.2, h2]; exact h5)
    have hl := T.len
    rw [ou_len] at a5
    exact ⟨W, by rw [allT_th T]; exact a1, a2, a3, a4, by simp; omega⟩
theorem all_nothing {cs : List (List Pt)} {t t' : Tx} (h : Row t cs t') : ∃ W, All (nothing t.length) t t cs t' W :=
  all_row (form_nothing _) (fit_nothing t).1 (fit_nothing t).2 h
/-- a row behind a change is the row's whole behind it -/
theorem all_then {cs : List (List Pt)} : ∀ {f W E : List Pt} {s t t' : Tx}, form f = f → Fit (uns f) s → M.mk (uns f) s = t → Row t cs t' → allT f cs = some W → allT (nothing t.length) cs = some E → ∃ r, Th (uns f) (uns E) r ∧ ou r = W := by
  induction cs with
  | nil =>
    intro f W E s t t' hf h1 h2 h3 h4 h5
    cases h4; cases h5
    subst h2
    obtain ⟨r, T, n⟩ := th_nothing_r h1
    exact ⟨r, T, by rw [ou_eq.mpr n]; exact hf⟩
  | cons c cs ih =>
    intro f W E s t t' hf h1 h2 h3 h4 h5
    obtain ⟨h6, h7⟩ := h3
    obtain ⟨r1, _, T1⟩ := Th.of_fit (b := uns c) h1 (by rw [h2]; exact h6)
    have f1 := T1.fit h1 (by rw [h2]; exact h6)
    rw [h2] at f1
    obtain ⟨q, Tq, nq⟩ := th_nothing_l h6
    rw [allT_th T1] at h4
    rw [allT_th Tq] at h5
    have k1 : Fit (uns (ou r1)) s := (fit_of_nf (nf_uns_ou r1)).mpr f1.1
    have nqc : nf (uns (ou q)) = nf (uns c) := (nf_uns_ou q).trans nq
    have k2 : Fit (uns (ou q)) t := (fit_of_nf nqc).mpr h6
    obtain ⟨E1, hE1⟩ := all_nothing h7
    obtain ⟨r, a1, a2⟩ := ih (form_ou r1) k1 (by rw [mk_of_nf (nf_uns_ou r1) k1, f1.2]) h7 h4 hE1.eq
    obtain ⟨r', b1, b2⟩ := ih (form_ou q) k2 (by rw [mk_of_nf nqc k2]) h7 h5 hE1.eq
    -- c, and then E1
    obtain ⟨x, c1, c2⟩ := b1.ex' nqc.symm rfl
    have nE : nf (uns E) = nf x := by rw [← b2, nf_uns_ou]; exact c2.symm
    obtain ⟨r2, d1⟩ : ∃ r2, Th (uns f) (uns E) r2 := by
      obtain ⟨W0, w0⟩ := all_nothing (t := t) (cs := c :: cs) ⟨h6, h7⟩
      have e0 : W0 = E := by have := w0.eq; rw [allT_th Tq, h5] at this; exact (Option.some.inj this).symm
      rw [e0] at w0
      obtain ⟨r2, _, d⟩ := Th.of_fit (b := uns E) h1 (by rw [h2]; exact w0.fit)
      exact ⟨r2, d⟩
    exact ⟨r2, d1, by rw [← a2]; exact ou_eq.mpr (Th.assoc' T1 (nf_uns_ou r1) a1 c1 nE d1).symm⟩
def undone (c : List Pt) : List Pt := ou (inv (uns c))
theorem nf_undone (c : List Pt) : nf (uns (undone c)) = nf (inv (uns c)) := nf_uns_ou _
theorem fit_undone {c : List Pt} {t : Tx} (h : Fit (uns c) t) : Fit (uns (undone c)) (mk (uns c) t) ∧ mk (uns (undone c)) (mk (uns c) t) = t := by
  have h1 := fit_inv h
  have h2 := (fit_of_nf (nf_undone c)).mpr h1.1
  exact ⟨h2, by rw [mk_of_nf (nf_undone c) h2, h1.2]⟩
theorem row_undone {cs : List (List Pt)} : ∀ {t t' : Tx}, Row t cs t' → Row t' (cs.reverse.map undone) t := by
  induction cs with
  | nil => intro t t' h; simp only [Row] at h; subst h; rfl
  | cons c cs ih =>
    intro t t' h
    have := ih h.2
    rw [List.reverse_cons, List.map_append]
    have h2 := fit_undone h.1
    exact this.app ⟨h2.1, h2.2.symm⟩
theorem all_undone {cs : List (List Pt)} : ∀ {t t' : Tx} {W V : List Pt}, Row t cs t' → allT (nothing t.length) cs = some W → allT (nothing t'.length) (cs.reverse.map undone) = some V → V = undone W := by
  induction cs with
  | nil =>
    intro t t' W V h h1 h2
    simp only [Row] at h
    subst h
    cases h1; cases h2
    refine (form_nothing t'.length).symm.trans (ou_eq.mpr ?_)
    rw [nf_nothing, show nf (inv (uns (nothing t'.length))) = nf (inv (List.replicate t'.length .k)) from nf_inv (nf_nothing _)]
    congr 1
    simp [inv]
  | cons c cs ih =>
    intro t t' W V h h1 h2
    have hr := row_undone h.2
    obtain ⟨E1, hE1⟩ := all_nothing h.2
    obtain ⟨V1, hV1⟩ := all_nothing hr
    have hv := ih h.2 hE1.eq hV1.eq
    obtain ⟨q, Tq, nq⟩ := th_nothing_l h.1
    rw [allT_th Tq] at h1
    have nqc : nf (uns (ou q)) = nf (uns c) := (nf_uns_ou q).trans nq
    have k2 : Fit (uns (ou q)) t := (fit_of_nf nqc).mpr h.1
    obtain ⟨r', b1, b2⟩ := all_then (form_ou q) k2 (by rw [mk_of_nf nqc k2]) h.2 h1 hE1.eq
    rw [List.reverse_cons, List.map_append, allT_app, hV1.eq] at h2
    simp only [Option.bind_some, List.map_cons, List.map_nil] at h2
    obtain ⟨r, T, n⟩ := b1.inv' (a' := uns (undone c)) (b' := uns V1) ((nf_undone c).trans (nf_inv nqc).symm) (by rw [hv]; exact nf_undone E1)
    rw [allT_th T] at h2
    cases h2
    refine ou_eq.mpr ?_
    rw [n, ← b2]
    exact (nf_inv (nf_uns_ou r')).symm
end G81.M
namespace G81.M
/-- all texts on the way -/
def txs (t : Tx) : List (List Pt) → List Tx
  | [] => [t]
  | c :: cs => t :: txs (mk (uns c) t) cs
theorem txs_snoc {cs : List (List Pt)} {c : List Pt} : ∀ {t m : Tx}, Row t cs m → txs t (cs ++ [c]) = txs t cs ++ [mk (uns c) m] := by
  induction cs with
  | nil => intro t m h; simp only [Row] at h; subst h; rfl
  | cons d cs ih => intro t m h; simp [txs, ih h.2]
theorem txs_last {cs : List (List Pt)} : ∀ {t m : Tx}, Row t cs m → ∃ l, txs t cs = l ++ [m] := by
  induction cs with
  | nil => intro t m h; simp only [Row] at h; subst h; exact ⟨[], rfl⟩
  | cons d cs ih => intro t m h; obtain ⟨l, hl⟩ := ih h.2; exact ⟨t :: l, by simp [txs, hl]⟩
theorem txs_at {cs : List (List Pt)} : ∀ {t m : Tx} (i : Nat), i ≤ cs.length → Row t cs m → ∃ s, (txs t cs)[i]? = some s ∧ Row t (cs.take i) s ∧ Row s (cs.drop i) m := by
  induction cs with
  | nil => intro t m i hi h; simp at hi; subst hi; simp only [Row] at h; subst h; exact ⟨m, rfl, rfl, rfl⟩
  | cons d cs ih =>
    intro t m i hi h
    cases i with
    | zero => exact ⟨t, by simp [txs], rfl, h⟩
    | succ i =>
      obtain ⟨s, h1, h2, h3⟩ := ih i (by simpa using hi) h.2
      exact ⟨s, by simpa [txs] using h1, ⟨h.1, h2⟩, h3⟩
theorem txs_len (cs : List (List Pt)) : ∀ t, (txs t cs).length = cs.length + 1 := by
  induction cs with
  | nil => intro t; rfl
  | cons c cs ih => intro t; simp [txs, ih]
theorem sumL_app (a b : List (List Pt)) : sumL (a ++ b) = sumL a + sumL b := by simp [sumL]
theorem uns_keeps (n : Nat) : uns (List.replicate n (Pt.keep 1)) = List.replicate n .k := by
  induction n with
  | zero => rfl
  | succ n ih => rw [List.replicate_succ, uns_cons, ih]; rfl
/-- a drawn change of the first signs, the others kept -/
theorem drawn_long {c : List Pt} {t : Tx} (h : Fit (uns c) (t.take 9)) : Fit (uns (c ++ List.replicate (t.length - 9) (Pt.keep 1))) t := by
  rw [uns_app, uns_keeps]
  have := h.app (fit_k (t.drop 9)).1
  rw [List.take_append_drop, List.length_drop] at this
  exact this
end G81.M
namespace G81
open PySem M
theorem dIx_last (l : List D) (x : D) : dIx (.lst (l ++ [x])) (.int (-1)) = .ok x := by
  have h0 : L2.ixN (l ++ [x]).length (-1) = some l.length := by
    unfold L2.ixN
    rw [List.length_append, List.length_singleton, if_neg (by omega), if_pos (by omega)]
    congr 1
    omega
  have h : L2.atI (l ++ [x]) (-1) = some x := by
    unfold L2.atI
    rw [h0]; simp
  simp only [dIx, h]
theorem keeps_enc (n : Nat) : (List.replicate n [D.tup [D.str ['k', 'e', 'e', 'p'], D.int 1]]).flatten = (List.replicate n (Pt.keep 1)).map encP := by
  induction n with
  | zero => rfl
  | succ n ih => rw [List.replicate_succ, List.flatten_cons, ih]; rfl
end G81

/-! One change led past another. Plain Lean. -/
namespace G81.M
inductive PR where
  | ok (r : List Un) | noFit | clash
@[simp] def PR.cons (u : Un) : PR → PR
  | .ok r => .ok (u :: r)
  | .noFit => .noFit
  | .clash => .clash
def pst (f : Bool) : List Un → List Un → PR
  | [], [] => .ok []
  | .p c :: m, [] => (pst f m []).cons (.p c)
  | .p c :: m, .p x :: y => if f = true then (pst f m (.p x :: y)).cons (.p c) else (pst f (.p c :: m) y).cons .k
  | .p c :: m, .k :: y => (pst f m (.k :: y)).cons (.p c)
  | .p c :: m, .d x :: y => (pst f m (.d x :: y)).cons (.p c)
  | [], .p _ :: y => (pst f [] y).cons .k
  | .k :: m, .p _ :: y => (pst f (.k :: m) y).cons .k
  | .d x :: m, .p _ :: y => (pst f (.d x :: m) y).cons .k
  | .k :: _, [] => .noFit
  | .d _ :: _, [] => .noFit
  | [], .k :: _ => .noFit
  | [], .d _ :: _ => .noFit
  | .k :: m, .k :: y => (pst f m y).cons .k
  | .k :: m, .d _ :: y => pst f m y
  | .d x :: m, .k :: y => (pst f m y).cons (.d x)
  | .d x :: m, .d z :: y => if x = z then pst f m y else .clash
termination_by m y => m.length + y.length
def hp : List Un → Bool
  | .p _ :: _ => true
  | _ => false
/-- both led past each other, the first one's signs ahead -/
inductive PP : List Un → List Un → List Un → List Un → Prop where
  | pu {c u v a b} : PP u v a b → PP (.p c :: u) v (.p c :: a) (.k :: b)
  | pv {c u v a b} : hp u = false → PP u v a b → PP u (.p c :: v) (.k :: a) (.p c :: b)
  | nl : PP [] [] [] []
  | kk {u v a b} : PP u v a b → PP (.k :: u) (.k :: v) (.k :: a) (.k :: b)
  | kd {c u v a b} : PP u v a b → PP (.k :: u) (.d c :: v) a (.d c :: b)
  | dk {c u v a b} : PP u v a b → PP (.d c :: u) (.k :: v) (.d c :: a) b
  | dd {c u v a b} : PP u v a b → PP (.d c :: u) (.d c :: v) a b
theorem PP.pst1 {u v a b : List Un} (h : PP u v a b) : pst true u v = .ok a := by
  induction h with
  | pu h ih => rename_i c u v a b; cases v with
    | nil => rw [pst, ih]; rfl
    | cons x v => cases x <;> rw [pst, ih] <;> rfl
  | pv h0 h ih => rename_i c u v a b; cases u with
    | nil => rw [pst, ih]; rfl
    | cons x u => cases x with
      | p z => cases h0
      | k => rw [pst, ih]; rfl
      | d z => rw [pst, ih]; rfl
  | nl => rw [pst]
  | kk h ih => rw [pst, ih]; rfl
  | kd h ih => rw [pst, ih]
  | dk h ih => rw [pst, ih]; rfl
  | dd h ih => rw [pst, if_pos rfl, ih]
theorem PP.pst2 {u v a b : List Un} (h : PP u v a b) : pst false v u = .ok b := by
  induction h with
  | pu h ih => rename_i c u v a b; cases v with
    | nil => rw [pst, ih]; rfl
    | cons x v => cases x <;> rw [pst, ih] <;> rfl
  | pv h0 h ih => rename_i c u v a b; cases u with
    | nil => rw [pst, ih]; rfl
    | cons x u => cases x with
      | p z => cases h0
      | k => rw [pst, ih]; rfl
      | d z => rw [pst, ih]; rfl
  | nl => rw [pst]
  | kk h ih => rw [pst, ih]; rfl
  | kd h ih => rw [pst, ih]; rfl
  | dk h ih => rw [pst, ih]
  | dd h ih => rw [pst, if_pos rfl, ih]
/-- when there is no clash, and lengths are alike -/
theorem PP.of_mt : ∀ (n : Nat) (u v : List Un), u.length + v.length = n → Mt (asks u) (asks v) → ∃ a b, PP u v a b := by
  intro n
  induction n using Nat.strongRecOn with
  | _ n ih =>
    intro u v hn h
    have go : ∀ u' v', u'.length + v'.length < u.length + v.length → Mt (asks u') (asks v') → ∃ a b, PP u' v' a b := fun u' v' h1 h2 => ih _ (by omega) u' v' rfl h2
    by_cases hu : hp u = true
    · cases u with
      | nil => cases hu
      | cons x u => cases x with
        | p c => obtain ⟨a, b, q⟩ := go u v (by simp) h; exact ⟨_, _, .pu q⟩
        | k => cases hu
        | d c => cases hu
    · have hu : hp u = false := by simpa using hu
      cases v with
      | nil => cases u with
        | nil => exact ⟨_, _, .nl⟩
        | cons x u => cases x with
          | p c => cases hu
          | k => exact h.elim
          | d c => exact h.elim
      | cons y v => cases y with
        | p c => obtain ⟨a, b, q⟩ := go u v (by simp) h; exact ⟨_, _, .pv hu q⟩
        | k => cases u with
          | nil => exact h.elim
          | cons x u => cases x with
            | p c => cases hu
            | k => obtain ⟨a, b, q⟩ := go u v (by simp; omega) h; exact ⟨_, _, .kk q⟩
            | d c => obtain ⟨a, b, q⟩ := go u v (by simp; omega) h; exact ⟨_, _, .dk q⟩
        | d z => cases u with
          | nil => exact h.elim
          | cons x u => cases x with
            | p c => cases hu
            | k => obtain ⟨a, b, q⟩ := go u v (by simp; omega) h; exact ⟨_, _, .kd q⟩
            | d c =>
              obtain ⟨rfl, h⟩ := h
              obtain ⟨a, b, q⟩ := go u v (by simp; omega) h; exact ⟨_, _, .dd q⟩
theorem PP.of_fit {u v : List Un} {t : Tx} (h : Fit u t) (h' : Fit v t) : ∃ a b, PP u v a b :=
  PP.of_mt _ u v rfl (Mt.fit ((fit_iff _ _).mp h) ((fit_iff _ _).mp h'))
theorem PP.len {u v a b : List Un} (h : PP u v a b) : a.length ≤ u.length + v.length ∧ b.length ≤ u.length + v.length := by
  induction h <;> simp <;> omega
theorem PP.mt1 {u v a b : List Un} (h : PP u v a b) : Mt (asks (inv u)) (asks b) := by
  induction h <;> simp_all [ask, Mt]
theorem PP.mt2 {u v a b : List Un} (h : PP u v a b) : Mt (asks (inv v)) (asks a) := by
  induction h <;> simp_all [ask, Mt]
theorem PP.asks {u v a b : List Un} (h : PP u v a b) : cA u (M.asks b) = cA v (M.asks a) := by
  induction h <;> simp_all [ask, cA]
theorem PP.asksI {u v a b : List Un} (h : PP u v a b) : cA (inv b) (M.asks (inv u)) = cA (inv a) (M.asks (inv v)) := by
  induction h <;> simp_all [ask, cA]
/-- both ways come to the same -/
theorem PP.tp1 {u v a b w w' : List Un} (h : PP u v a b) (h1 : Th u b w) (h2 : Th v a w') : nf w = nf w' :=
  nf_of_asks (by rw [h1.asks, h2.asks, h.asks]) (by rw [h1.asksI, h2.asksI, h.asksI])
theorem PP.ex {u v a b : List Un} (h : PP u v a b) : ∃ w w', Th u b w ∧ Th v a w' ∧ nf w = nf w' := by
  obtain ⟨w, _, h1⟩ := Th.ex h.mt1
  obtain ⟨w', _, h2⟩ := Th.ex h.mt2
  exact ⟨w, w', h1, h2, h.tp1 h1 h2⟩
theorem PP.befA {u v a b : List Un} (h : PP u v a b) : bef a = aft v := by
  induction h <;> simp_all
theorem PP.befB {u v a b : List Un} (h : PP u v a b) : bef b = aft u := by
  induction h <;> simp_all
def putsU : List Un → Tx
  | [] => []
  | .p c :: u => c :: putsU u
  | .k :: u => putsU u
  | .d _ :: u => putsU u
theorem PP.putsA {u v a b : List Un} (h : PP u v a b) : putsU a = putsU u := by
  induction h <;> simp_all [putsU]
theorem PP.putsB {u v a b : List Un} (h : PP u v a b) : putsU b = putsU v := by
  induction h <;> simp_all [putsU]
def both (p : Option Char × Option Char) : Bool := p.1.isSome && p.2.isSome
theorem PP.cstA {u v a b : List Un} (h : PP u v a b) : cst u = cst a + (((M.asks u).zip (M.asks v)).filter both).length := by
  induction h <;> simp_all [ask, both, List.filter_cons] <;> omega
theorem PP.cstB {u v a b : List Un} (h : PP u v a b) : cst v = cst b + (((M.asks u).zip (M.asks v)).filter both).length := by
  induction h <;> simp_all [ask, both, List.filter_cons] <;> omega
/-- what fits goes on fitting -/
theorem PP.fitA {u v a b : List Un} (h : PP u v a b) : ∀ {t : Tx}, Fit u t → Fit v t → Fit a (mk v t) ∧ Fit b (mk u t) := by
  induction h with
  | pu h ih => intro t h1 h2; have := ih (t := t) h1 h2; exact ⟨this.1, this.2⟩
  | pv h0 h ih => intro t h1 h2; have := ih (t := t) h1 h2; exact ⟨this.1, this.2⟩
  | nl => intro t h1 h2; exact ⟨rfl, rfl⟩
  | kk h ih => intro t h1 h2; cases t with
    | nil => exact h1.elim
    | cons x t => have := ih (t := t) h1 h2; exact ⟨this.1, this.2⟩
  | kd h ih => intro t h1 h2; cases t with
    | nil => exact h1.elim
    | cons x t => have := ih (t := t) h1 h2.2; exact ⟨this.1, ⟨h2.1, this.2⟩⟩
  | dk h ih => intro t h1 h2; cases t with
    | nil => exact h1.elim
    | cons x t => have := ih (t := t) h1.2 h2; exact ⟨⟨h1.1, this.1⟩, this.2⟩
  | dd h ih => intro t h1 h2; cases t with
    | nil => exact h1.elim
    | cons x t => exact ih (t := t) h1.2 h2.2
theorem PP.nothing (u : List Un) : PP u (List.replicate (bef u) .k) u (List.replicate (aft u) .k) := by
  induction u with
  | nil => exact .nl
  | cons x u ih =>
    cases x with
    | p c => rw [bef_p, aft_p, List.replicate_succ]; exact .pu ih
    | k => rw [bef_k, aft_k, List.replicate_succ, List.replicate_succ]; exact .kk ih
    | d c => rw [bef_d, aft_d, List.replicate_succ]; exact .dk ih
theorem hp_rep (n : Nat) : hp (List.replicate n .k) = false := by cases n <;> rfl
theorem PP.nothing' (u : List Un) : PP (List.replicate (bef u) .k) u (List.replicate (aft u) .k) u := by
  induction u with
  | nil => exact .nl
  | cons x u ih =>
    cases x with
    | p c => rw [bef_p, aft_p, List.replicate_succ]; exact .pv (hp_rep _) ih
    | k => rw [bef_k, aft_k, List.replicate_succ, List.replicate_succ]; exact .kk ih
    | d c => rw [bef_d, aft_d, List.replicate_succ]; exact .kd ih
theorem pst_len (f : Bool) (m y : List Un) : ∀ r, pst f m y = .ok r → r.length ≤ m.length + y.length := by
  have hc : ∀ (u : Un) (x : PR) r, x.cons u = .ok r → ∃ r', x = .ok r' ∧ r = u :: r' := by
    intro u x r h
    cases x with
    | ok r' => cases h; exact ⟨r', rfl, rfl⟩
    | noFit => cases h
    | clash => cases h
  induction m, y using pst.induct (f := f) <;> intro r h <;> rw [pst] at h
  all_goals first
    | (cases h; done)
    | (cases h; simp; done)
    | (obtain ⟨r', h1, rfl⟩ := hc _ _ _ h; rename_i ih; have := ih _ h1; simp at this ⊢; omega)
    | (rename_i ih; have := ih _ h; simp at this ⊢; omega)
    | skip
  · rename_i h0 ih
    rw [if_pos h0] at h
    obtain ⟨r', h1, rfl⟩ := hc _ _ _ h; have := ih _ h1; simp at this ⊢; omega
  · rename_i h0 ih
    rw [if_neg h0] at h
    obtain ⟨r', h1, rfl⟩ := hc _ _ _ h; have := ih _ h1; simp at this ⊢; omega
  · rename_i ih
    rw [if_pos rfl] at h
    have := ih _ h; simp at this ⊢; omega
  · rename_i h0
    rw [if_neg h0] at h; cases h
/-- one led past the other, in forms -/
def pastT (f : Bool) (a b : List Pt) : PR := pst f (nf (uns a)) (nf (uns b))
end G81.M

/-! What past, merged, rows_past answer. -/
namespace G81
open PySem M
theorem left_eq (x y : Un) (hx : hp [x] = false) (hy : hp [y] = false) : f_left_of [encU x, encU y] = match x, y with | .d a, .d b => if a = b then .ok (.lst []) else .err "Clash" | x, .k => .ok (.lst [encU x]) | _, _ => .ok (.lst []) := by
  have h2 : startE N_left_of [encU x, encU y] = [some (encU x), some (encU y)] := rfl
  simp only [f_left_of, s_left_of, h2]
  cases x with
  | p c => cases hx
  | k => cases y with
    | p c => cases hy
    | k => simp [encU]
    | d c => simp [encU]
  | d a => cases y with
    | p c => cases hy
    | k => simp [encU]
    | d b => by_cases h : a = b <;> simp [encU, h]
def pastC : Ev → R Bool := (tOrF (tCm dNe (eVar 3) (eLst aNil)) (tCm dNe (eVar 4) (eLst aNil)))
theorem pastC_eq (A B F I Z : Option D) (m y : List Un) : pastC [A, B, I, some (.lst (m.map encU)), some (.lst (y.map encU)), F, Z] = .ok (!decide (m = [] ∧ y = [])) := by
  cases m <;> cases y <;> simp [pastC, dNe_us]
def prO (A B I : Option D) (f : List Un) : PR → Out → Prop
  | .ok r, o => ∃ z, o = .nx [A, B, I, some (.lst []), some (.lst []), some (.lst ((f ++ r).map encU)), z]
  | .noFit, o => o = .er "NoFit"
  | .clash, o => o = .er "Clash"
theorem prO_cons {A B I : Option D} {f : List Un} {u : Un} {x : PR} {o : Out} (h : prO A B I (f ++ [u]) x o) : prO A B I f (x.cons u) o := by
  cases x with
  | ok r => obtain ⟨z, h⟩ := h; exact ⟨z, by rw [h]; simp⟩
  | noFit => exact h
  | clash => exact h
theorem past_loop (A B : Option D) (i : Bool) : ∀ (m y f : List Un) (z : Option D), f.length + m.length + y.length ≤ 400000 →
    prO A B (some (.bl i)) f (pst i m y) (sWh pastC b_past_0 [A, B, some (.bl i), some (.lst (m.map encU)), some (.lst (y.map encU)), some (.lst (f.map encU)), z]) := by
  intro m y
  have lv := line_v
  induction m, y using pst.induct (f := i) <;> intro f z hl <;> rw [pst]
  case case1 => exact ⟨z, by rw [sWh_false (by rw [pastC_eq]; simp)]; simp⟩
  case case2 c m ih =>
    have l1 : f.length < line := by simp at hl; omega
    rw [sWh_true (e2 := [A, B, some (.bl i), some (.lst (List.map encU (m))), some (.lst (List.map encU ([]))), some (.lst ((f ++ [Un.p c]).map encU)), some (.bl true)]) (by rw [pastC_eq]; simp) (by simp [b_past_0, encU, xPop0, popH, l1])]
    exact prO_cons (ih _ _ (by simp at hl ⊢; omega))
  case case3 c m x y h0 ih =>
    have l1 : f.length < line := by simp at hl; omega
    rw [if_pos h0]
    subst h0
    rw [sWh_true (e2 := [A, B, some (.bl true), some (.lst (List.map encU (m))), some (.lst (List.map encU (.p x :: y))), some (.lst ((f ++ [Un.p c]).map encU)), some (.bl true)]) (by rw [pastC_eq]; simp) (by simp [b_past_0, encU, xPop0, popH, l1])]
    exact prO_cons (ih _ _ (by simp at hl ⊢; omega))
  case case4 c m x y h0 ih =>
    have l1 : f.length < line := by simp at hl; omega
    rw [if_neg h0]
    have h0 : i = false := by simpa using h0
    subst h0
    rw [sWh_true (e2 := [A, B, some (.bl false), some (.lst (List.map encU (.p c :: m))), some (.lst (List.map encU (y))), some (.lst ((f ++ [Un.k]).map encU)), some (.bl true)]) (by rw [pastC_eq]; simp) (by simp [b_past_0, encU, xPop0, popH, l1])]
    exact prO_cons (ih _ _ (by simp at hl ⊢; omega))
  case case5 c m y ih =>
    have l1 : f.length < line := by simp at hl; omega
    rw [sWh_true (e2 := [A, B, some (.bl i), some (.lst (List.map encU (m))), some (.lst (List.map encU (.k :: y))), some (.lst ((f ++ [Un.p c]).map encU)), some (.bl true)]) (by rw [pastC_eq]; simp) (by simp [b_past_0, encU, xPop0, popH, l1])]
    exact prO_cons (ih _ _ (by simp at hl ⊢; omega))
  case case6 c m x y ih =>
    have l1 : f.length < line := by simp at hl; omega
    rw [sWh_true (e2 := [A, B, some (.bl i), some (.lst (List.map encU (m))), some (.lst (List.map encU (.d x :: y))), some (.lst ((f ++ [Un.p c]).map encU)), some (.bl true)]) (by rw [pastC_eq]; simp) (by simp [b_past_0, encU, xPop0, popH, l1])]
    exact prO_cons (ih _ _ (by simp at hl ⊢; omega))
  case case7 c y ih =>
    have l1 : f.length < line := by simp at hl; omega
    rw [sWh_true (e2 := [A, B, some (.bl i), some (.lst (List.map encU ([]))), some (.lst (List.map encU (y))), some (.lst ((f ++ [Un.k]).map encU)), some (.bl false)]) (by rw [pastC_eq]; simp) (by simp [b_past_0, encU, xPop0, popH, l1])]
    exact prO_cons (ih _ _ (by simp at hl ⊢; omega))
  case case8 m c y ih =>
    have l1 : f.length < line := by simp at hl; omega
    rw [sWh_true (e2 := [A, B, some (.bl i), some (.lst (List.map encU (.k :: m))), some (.lst (List.map encU (y))), some (.lst ((f ++ [Un.k]).map encU)), some (.bl false)]) (by rw [pastC_eq]; simp) (by simp [b_past_0, encU, xPop0, popH, l1])]
    exact prO_cons (ih _ _ (by simp at hl ⊢; omega))
  case case9 x m c y ih =>
    have l1 : f.length < line := by simp at hl; omega
    rw [sWh_true (e2 := [A, B, some (.bl i), some (.lst (List.map encU (.d x :: m))), some (.lst (List.map encU (y))), some (.lst ((f ++ [Un.k]).map encU)), some (.bl false)]) (by rw [pastC_eq]; simp) (by simp [b_past_0, encU, xPop0, popH, l1])]
    exact prO_cons (ih _ _ (by simp at hl ⊢; omega))
  case case10 m =>
    exact sWh_end (by rw [pastC_eq]; simp) (by simp [b_past_0, encU]) (by simp)
  case case11 x m =>
    exact sWh_end (by rw [pastC_eq]; simp) (by simp [b_past_0, encU]) (by simp)
  case case12 y =>
    exact sWh_end (by rw [pastC_eq]; simp) (by simp [b_past_0, encU]) (by simp)
  case case13 x y =>
    exact sWh_end (by rw [pastC_eq]; simp) (by simp [b_past_0, encU]) (by simp)
  case case14 m y ih =>
    have l1 : f.length + 1 ≤ line := by simp at hl; omega
    have hm := left_eq .k .k rfl rfl
    simp [encU] at hm
    rw [sWh_true (e2 := [A, B, some (.bl i), some (.lst (List.map encU (m))), some (.lst (List.map encU (y))), some (.lst ((f ++ [Un.k]).map encU)), some (.bl false)]) (by rw [pastC_eq]; simp) (by simp [b_past_0, encU, xCall, xaCons, xaNil, xPop0, popH, l1, hm, Nat.le_of_succ_le l1])]
    exact prO_cons (ih _ _ (by simp at hl ⊢; omega))
  case case15 m x y ih =>
    have l1 : f.length + 1 ≤ line := by simp at hl; omega
    have hm := left_eq .k (.d x) rfl rfl
    simp [encU] at hm
    rw [sWh_true (e2 := [A, B, some (.bl i), some (.lst (List.map encU (m))), some (.lst (List.map encU (y))), some (.lst ((f).map encU)), some (.bl false)]) (by rw [pastC_eq]; simp) (by simp [b_past_0, encU, xCall, xaCons, xaNil, xPop0, popH, l1, hm, Nat.le_of_succ_le l1])]
    exact (ih _ _ (by simp at hl ⊢; omega))
  case case16 x m y ih =>
    have l1 : f.length + 1 ≤ line := by simp at hl; omega
    have hm := left_eq (.d x) .k rfl rfl
    simp [encU] at hm
    rw [sWh_true (e2 := [A, B, some (.bl i), some (.lst (List.map encU (m))), some (.lst (List.map encU (y))), some (.lst ((f ++ [Un.d x]).map encU)), some (.bl false)]) (by rw [pastC_eq]; simp) (by simp [b_past_0, encU, xCall, xaCons, xaNil, xPop0, popH, l1, hm, Nat.le_of_succ_le l1])]
    exact prO_cons (ih _ _ (by simp at hl ⊢; omega))
  case case17 m x y ih =>
    have l1 : f.length + 1 ≤ line := by simp at hl; omega
    have hm := left_eq (.d x) (.d x) rfl rfl
    simp [encU] at hm
    rw [if_pos rfl]
    rw [sWh_true (e2 := [A, B, some (.bl i), some (.lst (List.map encU (m))), some (.lst (List.map encU (y))), some (.lst ((f).map encU)), some (.bl false)]) (by rw [pastC_eq]; simp) (by simp [b_past_0, encU, xCall, xaCons, xaNil, xPop0, popH, l1, hm, Nat.le_of_succ_le l1])]
    exact (ih _ _ (by simp at hl ⊢; omega))
  case case18 x m z' y hx =>
    have hm := left_eq (.d x) (.d z') rfl rfl
    simp [encU, hx] at hm
    rw [if_neg hx]
    exact sWh_end (by rw [pastC_eq]; simp) (by simp [b_past_0, encU, xCall, xaCons, xaNil, xPop0, popH, hm]) (by simp)
theorem f_past_eq (a b : List Pt) (i : Bool) (ha : (uns a).length ≤ 50000) (hb : (uns b).length ≤ 50000) : f_past [encC a, encC b, .bl i] = match pastT i a b with | .ok r => .ok (encC (ou r)) | .noFit => .err "NoFit" | .clash => .err "Clash" := by
  have h2 : startE N_past [encC a, encC b, .bl i] = [some (encC a), some (encC b), some (.bl i), none, none, none, none] := rfl
  have h3 := past_loop (some (encC a)) (some (encC b)) i (nf (uns a)) (nf (uns b)) [] none (by simp; omega)
  simp only [f_past, s_past, h2]
  rw [show (tOrF (tCm dNe (eVar 3) (eLst aNil)) (tCm dNe (eVar 4) (eLst aNil))) = pastC from rfl]
  have e1 := f_units_of_eq (form a) (by rw [uns_form]; simp; omega)
  have e2 := f_units_of_eq (form b) (by rw [uns_form]; simp; omega)
  rw [uns_form] at e1 e2
  unfold pastT
  simp [f_form_eq a (by omega), f_form_eq b (by omega), e1, e2, encUs] at h3 ⊢
  cases hr : pst i (nf (uns a)) (nf (uns b)) with
  | noFit => rw [hr] at h3; simp only [prO] at h3; simp [h3]
  | clash => rw [hr] at h3; simp only [prO] at h3; simp [h3]
  | ok r =>
    rw [hr] at h3
    obtain ⟨z, h3⟩ := h3
    have h4 := f_of_units_eq r (by have := pst_len _ _ _ _ hr; simp at this; omega)
    simp [encUs] at h3 h4
    simp [h3, h4]
end G81

/-! Composition as a function; rows led past. Plain Lean. -/
namespace G81.M
def cp (a b : List Un) : List Un := nf ((thn a b).getD [])
def kk (n : Nat) : List Un := List.replicate n .k
theorem cp_th {a b r : List Un} (h : Th a b r) : cp a b = nf r := by
  obtain ⟨r', h1⟩ := (thn_iff a b).mpr h.mt
  unfold cp
  rw [h1]
  exact (thn_th _ _ _ h1).det h
theorem cp_congr {a b a' b' : List Un} (ha : nf a = nf a') (hb : nf b = nf b') : cp a b = cp a' b' := by
  unfold cp
  cases h : thn a b with
  | none =>
    cases h' : thn a' b' with
    | none => rfl
    | some r' =>
      exfalso
      have h1 := (thn_iff a' b').mp ⟨r', h'⟩
      rw [← asksI_of_nf ha, ← asks_of_nf hb] at h1
      obtain ⟨r, h2⟩ := (thn_iff a b).mpr h1
      rw [h] at h2; cases h2
  | some r =>
    have h1 := (thn_iff a b).mp ⟨r, h⟩
    rw [asksI_of_nf ha, asks_of_nf hb] at h1
    obtain ⟨r', h2⟩ := (thn_iff a' b').mpr h1
    rw [h2]
    exact (thn_th _ _ _ h).congr (thn_th _ _ _ h2) ha hb
@[simp] theorem nf_cp (a b : List Un) : nf (cp a b) = cp a b := nf_nf _
theorem cp_fit {a b : List Un} {t : Tx} (h : Fit a t) (h' : Fit b (mk a t)) : Fit (cp a b) t ∧ mk (cp a b) t = mk b (mk a t) := by
  obtain ⟨r, _, T⟩ := Th.of_fit h h'
  have := T.fit h h'
  rw [cp_th T]
  have f := (fit_of_nf (nf_nf r)).mpr this.1
  exact ⟨f, by rw [mk_of_nf (nf_nf r) f, this.2]⟩
theorem cp_assoc {a b c : List Un} {t : Tx} (h1 : Fit a t) (h2 : Fit b (mk a t)) (h3 : Fit c (mk b (mk a t))) : cp (cp a b) c = cp a (cp b c) := by
  obtain ⟨ab, _, T1⟩ := Th.of_fit h1 h2
  have f1 := T1.fit h1 h2
  obtain ⟨bc, _, T2⟩ := Th.of_fit h2 h3
  have f2 := T2.fit h2 h3
  obtain ⟨r, _, T3⟩ := Th.of_fit (b := c) f1.1 (by rw [f1.2]; exact h3)
  obtain ⟨r', _, T4⟩ := Th.of_fit (b := bc) h1 f2.1
  have e1 : cp (cp a b) c = cp ab c := cp_congr (by rw [cp_th T1, nf_nf]) rfl
  have e2 : cp a (cp b c) = cp a bc := cp_congr rfl (by rw [cp_th T2, nf_nf])
  rw [e1, e2, cp_th T3, cp_th T4]
  exact T1.assoc T3 T2 T4
theorem cp_kl {u : List Un} {t : Tx} (h : Fit u t) : cp (kk t.length) u = nf u := by
  have := Th.nl_l u
  rw [h.len] at this
  exact cp_th this
theorem cp_kr {u : List Un} {t : Tx} (h : Fit u t) : cp u (kk (mk u t).length) = nf u := by
  have := Th.nl_r u
  rw [← h.aft] at this
  exact cp_th this
theorem PP.cp {u v a b : List Un} (h : PP u v a b) : M.cp u b = M.cp v a := by
  obtain ⟨w, w', h1, h2, h3⟩ := h.ex
  rw [cp_th h1, cp_th h2, h3]
theorem cp_inv {a b : List Un} {t : Tx} (h : Fit a t) (h' : Fit b (mk a t)) : nf (inv (cp a b)) = cp (inv b) (inv a) := by
  obtain ⟨r, _, T⟩ := Th.of_fit h h'
  obtain ⟨r', T', n⟩ := T.inv' rfl rfl
  rw [cp_th T, cp_th T', n]
  exact nf_inv (nf_nf r)
theorem uns_of_nf {u : List Un} : uns (ou u) = nf u := uns_ou u
/-- the whole of a row -/
def cmp (f : List Un) (cs : List (List Pt)) : List Un := cs.foldl (fun f c => cp f (uns c)) f
@[simp] theorem cmp_nil (f : List Un) : cmp f [] = f := rfl
@[simp] theorem cmp_cons (f : List Un) (c : List Pt) (cs : List (List Pt)) : cmp f (c :: cs) = cmp (cp f (uns c)) cs := rfl
theorem cmp_app (f : List Un) (cs ds : List (List Pt)) : cmp f (cs ++ ds) = cmp (cmp f cs) ds := by simp [cmp]
theorem cmp_fit {cs : List (List Pt)} : ∀ {f : List Un} {s t t' : Tx}, Fit f s → mk f s = t → Row t cs t' → Fit (cmp f cs) s ∧ mk (cmp f cs) s = t' := by
  induction cs with
  | nil => intro f s t t' h1 h2 h3; simp only [Row] at h3; subst h3; exact ⟨h1, h2⟩
  | cons c cs ih =>
    intro f s t t' h1 h2 h3
    have h4 := cp_fit (b := uns c) h1 (by rw [h2]; exact h3.1)
    exact ih h4.1 (by rw [h4.2, h2]) h3.2
theorem cmp_behind {cs : List (List Pt)} : ∀ {f g : List Un} {s t t' : Tx}, Fit f s → mk f s = t → Fit g t → Row (mk g t) cs t' → cmp (cp f g) cs = cp f (cmp (nf g) cs) := by
  induction cs with
  | nil => intro f g s t t' h1 h2 h3 h4; exact cp_congr rfl (nf_nf g).symm
  | cons c cs ih =>
    intro f g s t t' h1 h2 h3 h4
    rw [cmp_cons, cmp_cons, cp_assoc h1 (by rw [h2]; exact h3) (by rw [h2]; exact h4.1), cp_congr (nf_nf g) rfl]
    have h5 := cp_fit h3 h4.1
    have := ih (g := cp g (uns c)) h1 h2 h5.1 (by rw [h5.2]; exact h4.2)
    rw [this, nf_cp]
theorem cmp_from {cs : List (List Pt)} {f : List Un} {s t t' : Tx} (h1 : Fit f s) (h2 : mk f s = t) (h3 : Row t cs t') (hf : nf f = f) : cmp f cs = cp f (cmp (kk t.length) cs) := by
  have h4 := fit_k t
  have := cmp_behind (g := kk t.length) h1 h2 h4.1 (by rw [show mk (kk t.length) t = t from h4.2]; exact h3)
  have hk : nf (kk t.length) = kk t.length := by
    have : ∀ n, nfA (List.replicate n Un.k) [] [] = List.replicate n .k := by
      intro n; induction n with
      | zero => rfl
      | succ n ih => rw [List.replicate_succ, nfA, ih]; rfl
    exact this _
  rw [hk] at this
  rw [← this, show cp f (kk t.length) = f by rw [← h2, cp_kr h1, hf]]
theorem nf_kk (n : Nat) : nf (kk n) = kk n := by
  have : ∀ n, nfA (List.replicate n Un.k) [] [] = List.replicate n .k := by
    intro n; induction n with
    | zero => rfl
    | succ n ih => rw [List.replicate_succ, nfA, ih]; rfl
  exact this _
theorem uns_nothing (n : Nat) : uns (nothing n) = kk n := by rw [nothing, uns_ou]; exact nf_kk n
theorem allT_cmp {cs : List (List Pt)} : ∀ {f : List Un} {s t t' : Tx}, Fit f s → mk f s = t → Row t cs t' → nf f = f → allT (ou f) cs = some (ou (cmp f cs)) := by
  induction cs with
  | nil => intro f s t t' h1 h2 h3 hf; rfl
  | cons c cs ih =>
    intro f s t t' h1 h2 h3 hf
    obtain ⟨r, _, T⟩ := Th.of_fit (b := uns c) h1 (by rw [h2]; exact h3.1)
    have h4 := cp_fit (b := uns c) h1 (by rw [h2]; exact h3.1)
    have T' : Th (uns (ou f)) (uns c) r := by rw [uns_ou, hf]; exact T
    rw [allT_th T', cmp_cons, ← ih h4.1 (by rw [h4.2, h2]) h3.2 (nf_cp _ _)]
    congr 1
    rw [cp_th T]; exact (ou_nf r).symm
/-- the whole of a row from a text on -/
def whole (t : Tx) (cs : List (List Pt)) : List Un := cmp (kk t.length) cs
theorem all_whole {cs : List (List Pt)} {t t' : Tx} (h : Row t cs t') : allT (nothing t.length) cs = some (ou (whole t cs)) :=
  allT_cmp (fit_k t).1 (fit_k t).2 h (nf_kk _)
theorem whole_fit {cs : List (List Pt)} {t t' : Tx} (h : Row t cs t') : Fit (whole t cs) t ∧ mk (whole t cs) t = t' := cmp_fit (fit_k t).1 (fit_k t).2 h
theorem nf_cmp {cs : List (List Pt)} : ∀ {f : List Un}, nf f = f → nf (cmp f cs) = cmp f cs := by
  induction cs with
  | nil => intro f h; exact h
  | cons c cs ih => intro f h; exact ih (nf_cp _ _)
theorem nf_whole (t : Tx) (cs : List (List Pt)) : nf (whole t cs) = whole t cs := nf_cmp (nf_kk _)
theorem whole_cons {c : List Pt} {cs : List (List Pt)} {t t' : Tx} (h : Row t (c :: cs) t') : whole t (c :: cs) = cp (uns c) (whole (mk (uns c) t) cs) := by
  show cmp (cp (kk t.length) (uns c)) cs = _
  rw [cp_kl h.1]
  have h1 := (fit_of_nf (nf_nf (uns c))).mpr h.1
  have := cmp_from h1 (by rw [mk_of_nf (nf_nf _) h1]) h.2 (nf_nf _)
  rw [this]
  exact cp_congr (nf_nf _) rfl
theorem whole_app {cs ds : List (List Pt)} {t m t' : Tx} (h1 : Row t cs m) (h2 : Row m ds t') : whole t (cs ++ ds) = cp (whole t cs) (whole m ds) := by
  unfold whole
  rw [cmp_app]
  have f := whole_fit h1
  exact cmp_from f.1 f.2 h2 (nf_whole t cs)
/-! ### rows led past each other -/
/-- one led past a row, and the row past it -/
inductive InR : List Pt → List (List Pt) → List (List Pt) → List Pt → Prop where
  | nl {a} : InR a [] [] a
  | cs {a b bs x y led a'} : PP (nf (uns a)) (nf (uns b)) x y → InR (ou x) bs led a' → InR a (b :: bs) (ou y :: led) a'
inductive OutR : List (List Pt) → List (List Pt) → List (List Pt) → List (List Pt) → Prop where
  | nl {bs} : OutR [] bs [] bs
  | cs {a as bs led a' rows fin} : InR a bs led a' → OutR as led rows fin → OutR (a :: as) bs (form a' :: rows) fin
theorem InR.ex {bs : List (List Pt)} : ∀ {a : List Pt} {t t2 : Tx}, Fit (uns a) t → Row t bs t2 → ∃ led a', InR a bs led a' ∧ led.length = bs.length ∧ Row (mk (uns a) t) led (mk (uns a') t2) ∧ Fit (uns a') t2 ∧ cp (uns a) (whole (mk (uns a) t) led) = cp (whole t bs) (uns a') := by
  induction bs with
  | nil =>
    intro a t t2 h1 h2
    simp only [Row] at h2; subst h2
    exact ⟨[], a, .nl, rfl, rfl, h1, by
      show cp (uns a) (kk (mk (uns a) t2).length) = cp (kk t2.length) (uns a)
      rw [cp_kr h1, cp_kl h1]⟩
  | cons b bs ih =>
    intro a t t2 h1 h2
    have fa := (fit_nf (uns a) t).mpr h1
    have fb := (fit_nf (uns b) t).mpr h2.1
    obtain ⟨x, y, P⟩ := PP.of_fit fa fb
    have PF := P.fitA fa fb
    have ma : mk (nf (uns a)) t = mk (uns a) t := mk_of_nf (nf_nf _) fa
    have mb : mk (nf (uns b)) t = mk (uns b) t := mk_of_nf (nf_nf _) fb
    rw [ma, mb] at PF
    have hx : Fit (uns (ou x)) (mk (uns b) t) := (fit_of_nf (nf_uns_ou x)).mpr PF.1
    have hy : Fit (uns (ou y)) (mk (uns a) t) := (fit_of_nf (nf_uns_ou y)).mpr PF.2
    obtain ⟨led, a', i1, i2, i3, i4, i5⟩ := ih hx h2.2
    have mx : mk (uns (ou x)) (mk (uns b) t) = mk (uns (ou y)) (mk (uns a) t) := by
      obtain ⟨w, w', T1, T2, n⟩ := P.ex
      have e1 := T1.fit fa (by rw [ma]; exact PF.2)
      have e2 := T2.fit fb (by rw [mb]; exact PF.1)
      rw [mk_of_nf (nf_uns_ou x) hx, mk_of_nf (nf_uns_ou y) hy, ← ma, ← mb, ← e1.2, ← e2.2]
      exact (mk_of_nf n e1.1).symm
    rw [mx] at i3 i5
    have rl : Row (mk (uns a) t) (ou y :: led) (mk (uns a') t2) := ⟨hy, i3⟩
    refine ⟨ou y :: led, a', .cs P i1, by simp [i2], rl, i4, ?_⟩
    rw [whole_cons rl, whole_cons h2]
    have w1 := whole_fit i3
    have w2 := whole_fit h2.2
    rw [← cp_assoc h1 hy w1.1]
    rw [cp_assoc h2.1 w2.1 (by rw [w2.2]; exact i4), ← i5, ← cp_assoc h2.1 hx (by rw [mx]; exact w1.1)]
    have e : cp (uns a) (uns (ou y)) = cp (uns b) (uns (ou x)) := by
      rw [cp_congr (nf_nf _).symm (nf_uns_ou y), cp_congr (nf_nf (uns b)).symm (nf_uns_ou x)]
      exact P.cp
    rw [e]
theorem cp_form_r (a : List Un) (c : List Pt) : cp a (uns (form c)) = cp a (uns c) := cp_congr rfl (by rw [uns_form, nf_nf])
theorem OutR.ex {as : List (List Pt)} : ∀ {bs : List (List Pt)} {t t1 t2 : Tx}, Row t as t1 → Row t bs t2 → ∃ rows fin t3, OutR as bs rows fin ∧ rows.length = as.length ∧ fin.length = bs.length ∧ Row t1 fin t3 ∧ Row t2 rows t3 ∧ cp (whole t as) (whole t1 fin) = cp (whole t bs) (whole t2 rows) := by
  induction as with
  | nil =>
    intro bs t t1 t2 h1 h2
    simp only [Row] at h1; subst h1
    refine ⟨[], bs, t2, .nl, rfl, rfl, h2, rfl, ?_⟩
    have w := whole_fit h2
    show cp (kk t1.length) (whole t1 bs) = cp (whole t1 bs) (kk t2.length)
    rw [cp_kl w.1, show kk t2.length = kk (mk (whole t1 bs) t1).length by rw [w.2], cp_kr w.1]
  | cons a as ih =>
    intro bs t t1 t2 h1 h2
    obtain ⟨led, a', i1, i2, i3, i4, i5⟩ := InR.ex h1.1 h2
    obtain ⟨rows, fin, t3, o1, o2, o3, o4, o5, o6⟩ := ih h1.2 i3
    have hf : Fit (uns (form a')) t2 := by rw [uns_form]; exact (fit_nf _ _).mpr i4
    have mf : mk (uns (form a')) t2 = mk (uns a') t2 := mk_of_nf (by rw [uns_form, nf_nf]) hf
    have rr : Row t2 (form a' :: rows) t3 := ⟨hf, by rw [mf]; exact o5⟩
    refine ⟨form a' :: rows, fin, t3, .cs i1 o1, by simp [o2], by rw [o3, i2], o4, rr, ?_⟩
    rw [whole_cons h1, whole_cons rr, mf]
    have w1 := whole_fit h1.2
    have w2 := whole_fit o4
    have w3 := whole_fit i3
    have w4 := whole_fit h2
    have w5 := whole_fit o5
    rw [cp_assoc h1.1 w1.1 (by rw [w1.2]; exact w2.1), o6, ← cp_assoc h1.1 w3.1 (by rw [w3.2]; exact w5.1), i5]
    rw [cp_assoc w4.1 (by rw [w4.2]; exact i4) (by rw [w4.2]; exact w5.1)]
    have e : cp (uns (form a')) (whole (mk (uns a') t2) rows) = cp (uns a') (whole (mk (uns a') t2) rows) := cp_congr (by rw [uns_form, nf_nf]) rfl
    rw [e]
end G81.M

/-! What rows_past answers. -/
namespace G81
open PySem M
theorem f_past1 {a b : List Pt} {x y : List Un} (h : PP (nf (uns a)) (nf (uns b)) x y) (ha : (uns a).length ≤ 50000) (hb : (uns b).length ≤ 50000) : f_past [encC a, encC b, .bl true] = .ok (encC (ou x)) := by
  rw [f_past_eq a b true ha hb, pastT, h.pst1]
theorem f_past2 {a b : List Pt} {x y : List Un} (h : PP (nf (uns a)) (nf (uns b)) x y) (ha : (uns a).length ≤ 50000) (hb : (uns b).length ≤ 50000) : f_past [encC b, encC a, .bl false] = .ok (encC (ou y)) := by
  rw [f_past_eq b a false hb ha, pastT, h.pst2]
theorem in_loop (A B C : Option D) {a : List Pt} {bs led : List (List Pt)} {a' : List Pt} (h : InR a bs led a') : ∀ (acc : List (List Pt)) (z : Option D), (uns a).length + sumL bs ≤ 50000 → acc.length + bs.length ≤ 1000 →
    (∃ z', forF (tsN 5) b_rows_past_0 (bs.map encC) [A, B, C, some (encC a), some (.lst (acc.map encC)), z] = .nx [A, B, C, some (encC a'), some (.lst ((acc ++ led).map encC)), z']) ∧ (uns a').length ≤ (uns a).length + sumL bs ∧ sumL led ≤ bs.length * ((uns a).length + sumL bs) := by
  induction h with
  | nl => intro acc z h1 h2; exact ⟨⟨z, by simp⟩, by simp, by simp⟩
  | cs P h ih =>
    rename_i a b bs x y led a'
    intro acc z h1 h2
    have lv := line_v
    simp only [sumL_cons, List.length_cons] at h1 h2 ⊢
    have e1 := f_past1 P (by omega) (by omega)
    have e2 := f_past2 P (by omega) (by omega)
    have pl := P.len
    simp only [nf_len] at pl
    have lx : (uns (ou x)).length = x.length := ou_len x
    have ly : (uns (ou y)).length = y.length := ou_len y
    obtain ⟨⟨z', g⟩, g2, g3⟩ := ih (acc ++ [ou y]) (some (encC b)) (by omega) (by simp; omega)
    have l1 : acc.length < line := by omega
    refine ⟨⟨z', ?_⟩, by omega, ?_⟩
    · rw [List.map_cons, forF_step]
      have e : sOf (tsN 5 (encC b) [A, B, C, some (encC a), some (.lst (acc.map encC)), z]) b_rows_past_0 = .nx [A, B, C, some (encC (ou x)), some (.lst ((acc ++ [ou y]).map encC)), some (encC b)] := by
        simp [b_rows_past_0, e1, e2, l1]
      rw [e]
      simpa using g
    · have : bs.length * ((uns (ou x)).length + sumL bs) ≤ bs.length * ((uns a).length + ((uns b).length + sumL bs)) := Nat.mul_le_mul_left _ (by omega)
      rw [Nat.add_mul, Nat.one_mul]
      omega
theorem in_len {a : List Pt} {bs led : List (List Pt)} {a' : List Pt} (h : InR a bs led a') : led.length = bs.length := by
  induction h <;> simp [*]
theorem out_loop (A : Option D) (L : Nat) {as bs rows fin : List (List Pt)} (h : OutR as bs rows fin) : ∀ (acc : List (List Pt)) (x y z : Option D), (∀ a ∈ as, (uns a).length ≤ L) → bs.length ≤ 3 → 4 ^ as.length * (sumL bs + L) ≤ 40000 → acc.length + as.length ≤ 1000 →
    (∃ x' y' z', forF (tsN 3) b_rows_past_1 (as.map encC) [A, some (.lst (bs.map encC)), some (.lst (acc.map encC)), x, y, z] = .nx [A, some (.lst (fin.map encC)), some (.lst ((acc ++ rows).map encC)), x', y', z']) ∧ sumL fin ≤ 40000 ∧ sumL rows ≤ as.length * 10000 := by
  induction h with
  | nl => rename_i bs; intro acc x y z h1 h2 h3 h4; simp at h3; exact ⟨⟨x, y, z, by simp⟩, by omega, by simp⟩
  | cs I O ih =>
    rename_i a as bs led a' rows fin
    intro acc x y z h1 h2 h3 h4
    have lv := line_v
    simp only [List.length_cons] at h3 h4
    have hp : 1 ≤ 4 ^ as.length := Nat.one_le_pow _ _ (by decide)
    have hL := h1 a (by simp)
    have h5 : 4 * (sumL bs + L) ≤ 40000 := by
      have : 4 * (sumL bs + L) ≤ 4 ^ (as.length + 1) * (sumL bs + L) := by
        rw [Nat.pow_succ]
        calc 4 * (sumL bs + L) = 1 * 4 * (sumL bs + L) := by omega
          _ ≤ 4 ^ as.length * 4 * (sumL bs + L) := Nat.mul_le_mul_right _ (Nat.mul_le_mul_right _ hp)
      omega
    obtain ⟨⟨z1, g1⟩, g2, g3⟩ := in_loop A (some (.lst (bs.map encC))) (some (.lst (acc.map encC))) I [] z (by omega) (by simp; omega)
    have h6 : sumL led ≤ 3 * (L + sumL bs) := by
      have : bs.length * ((uns a).length + sumL bs) ≤ 3 * (L + sumL bs) := Nat.mul_le_mul h2 (by omega)
      omega
    have h7 : 4 ^ as.length * (sumL led + L) ≤ 40000 := by
      have : 4 ^ as.length * (sumL led + L) ≤ 4 ^ (as.length + 1) * (sumL bs + L) := by
        rw [Nat.pow_succ, Nat.mul_assoc]
        exact Nat.mul_le_mul_left _ (by omega)
      omega
    have e0 := f_form_eq a' (by omega)
    have l1 : acc.length < line := by omega
    obtain ⟨⟨x', y', z', g⟩, g4, g5⟩ := ih (acc ++ [M.form a']) (some (encC a')) (some (.lst (led.map encC))) z1 (fun c hc => h1 c (by simp [hc])) (by rw [in_len I]; exact h2) h7 (by simp; omega)
    refine ⟨⟨x', y', z', ?_⟩, g4, ?_⟩
    · rw [List.map_cons, forF_step]
      have e : sOf (tsN 3 (encC a) [A, some (.lst (bs.map encC)), some (.lst (acc.map encC)), x, y, z]) b_rows_past_1 = .nx [A, some (.lst (led.map encC)), some (.lst ((acc ++ [M.form a']).map encC)), some (encC a'), some (.lst (led.map encC)), z1] := by
        simp at g1
        simp [b_rows_past_1, g1, e0, l1]
      rw [e]
      simpa using g
    · simp only [sumL_cons, List.length_cons, uns_form, nf_len]
      omega
theorem f_rows_past_eq {as bs rows fin : List (List Pt)} (L : Nat) (h : OutR as bs rows fin) (h1 : ∀ a ∈ as, (uns a).length ≤ L) (h2 : bs.length ≤ 3) (h3 : 4 ^ as.length * (sumL bs + L) ≤ 40000) (h4 : as.length ≤ 100) :
    f_rows_past [.lst (as.map encC), .lst (bs.map encC)] = .ok (.tup [.lst (rows.map encC), .lst ((fin.map M.form).map encC)]) := by
  have h0 : startE N_rows_past [.lst (as.map encC), .lst (bs.map encC)] = [some (.lst (as.map encC)), some (.lst (bs.map encC)), none, none, none, none] := rfl
  obtain ⟨⟨x', y', z', g⟩, g2, g3⟩ := out_loop (some (.lst (as.map encC))) L h [] none none none h1 h2 h3 (by simp; omega)
  have hle : ∀ c ∈ fin, (uns c).length ≤ 40000 := by
    intro c hc
    obtain ⟨p, q, rfl⟩ := List.append_of_mem hc
    rw [sumL_app] at g2; simp at g2; omega
  have hlc := lcF_map (tgt := tsN 5) (tst := tTrue) (elt := eCall f_form (aCons (eVar 5) aNil)) (env := [some (.lst (as.map encC)), some (.lst (fin.map encC)), some (.lst (rows.map encC)), x', y', none]) encC (fun c => encC (M.form c)) fin (fun c hc => ⟨_, rfl, rfl, by
    simp [f_form_eq c (by have := hle c hc; omega)]⟩)
  have hfl : fin.length ≤ line := by
    have e : ∀ {as bs rows fin : List (List Pt)}, OutR as bs rows fin → fin.length = bs.length := by
      intro as bs rows fin h
      induction h with
      | nl => rfl
      | cs I O ih => rw [ih, in_len I]
    rw [e h]; have := line_v; omega
  simp only [f_rows_past, s_rows_past, h0]
  simp at g hlc
  simp [g, hfl, hlc, Function.comp_def]
end G81

/-! Changes parted, and joined. Plain Lean. -/
namespace G81.M
theorem Th.app {a b r a' b' r' : List Un} (h : Th a b r) (h' : Th a' b' r') : Th (a ++ a') (b ++ b') (r ++ r') := by
  induction h with
  | dd h ih => exact .dd ih
  | pp h ih => exact .pp ih
  | nl => exact h'
  | kk h ih => exact .kk ih
  | kd h ih => exact .kd ih
  | pk h ih => exact .pk ih
  | pd h ih => exact .pd ih
theorem nf_app {a b a' b' : List Un} (h : nf a = nf a') (h' : nf b = nf b') : nf (a ++ b) = nf (a' ++ b') := by
  obtain ⟨h1, h2⟩ := nf_iff.mp h
  obtain ⟨h3, h4⟩ := nf_iff.mp h'
  exact nf_of_asks (by rw [asks_app, asks_app, h1, h3]) (by rw [inv_app, inv_app, asks_app, asks_app, h2, h4])
theorem bef_app (a b : List Un) : bef (a ++ b) = bef a + bef b := by simp [bef]
theorem aft_app (a b : List Un) : aft (a ++ b) = aft a + aft b := by simp [aft]
theorem cst_app (a b : List Un) : cst (a ++ b) = cst a + cst b := by simp [cst]
theorem mk_app {a b : List Un} : ∀ {s t : Tx}, Fit a s → Fit b t → mk (a ++ b) (s ++ t) = mk a s ++ mk b t := by
  induction a with
  | nil => intro s t h h'; simp only [Fit] at h; subst h; rfl
  | cons u a ih =>
    intro s t h h'
    cases u with
    | p c => have := ih h h'; simp [mk, this]
    | k => cases s with
      | nil => exact h.elim
      | cons c s => have := ih (s := s) h h'; simp [mk, this]
    | d x => cases s with
      | nil => exact h.elim
      | cons c s => have := ih (s := s) h.2 h'; simp [mk, this]
theorem Fit.split {a b : List Un} : ∀ {t : Tx}, Fit (a ++ b) t → Fit a (t.take (bef a)) ∧ Fit b (t.drop (bef a)) := by
  induction a with
  | nil => intro t h; exact ⟨by simp [Fit], by simpa using h⟩
  | cons u a ih =>
    intro t h
    cases u with
    | p c => have := ih (t := t) h; exact ⟨by simpa [Fit] using this.1, by simpa using this.2⟩
    | k => cases t with
      | nil => exact h.elim
      | cons c t => have := ih (t := t) h; exact ⟨by simpa [Fit] using this.1, by simpa using this.2⟩
    | d x => cases t with
      | nil => exact h.elim
      | cons c t => have := ih (t := t) h.2; exact ⟨by simpa [Fit, h.1] using this.1, by simpa using this.2⟩
/-! ### drops, puts alone -/
def dropsU (u : List Un) : List Un := u.filter np
def putsV (u : List Un) : List Un := u.filter nd
def kept (u : List Un) : Nat := (u.filter fun x => !nk x).length
@[simp] theorem kept_nil : kept [] = 0 := rfl
@[simp] theorem kept_k (u : List Un) : kept (.k :: u) = kept u + 1 := by simp [kept, List.filter_cons]
@[simp] theorem kept_p (c : Char) (u : List Un) : kept (.p c :: u) = kept u := by simp [kept, List.filter_cons]
@[simp] theorem kept_d (c : Char) (u : List Un) : kept (.d c :: u) = kept u := by simp [kept, List.filter_cons]
@[simp] theorem dU_k (u : List Un) : dropsU (.k :: u) = .k :: dropsU u := by simp [dropsU, List.filter_cons]
@[simp] theorem dU_p (c : Char) (u : List Un) : dropsU (.p c :: u) = dropsU u := by simp [dropsU, List.filter_cons]
@[simp] theorem dU_d (c : Char) (u : List Un) : dropsU (.d c :: u) = .d c :: dropsU u := by simp [dropsU, List.filter_cons]
@[simp] theorem pV_k (u : List Un) : putsV (.k :: u) = .k :: putsV u := by simp [putsV, List.filter_cons]
@[simp] theorem pV_p (c : Char) (u : List Un) : putsV (.p c :: u) = .p c :: putsV u := by simp [putsV, List.filter_cons]
@[simp] theorem pV_d (c : Char) (u : List Un) : putsV (.d c :: u) = putsV u := by simp [putsV, List.filter_cons]
@[simp] theorem dU_nil : dropsU [] = [] := rfl
@[simp] theorem pV_nil : putsV [] = [] := rfl
theorem th_parts (u : List Un) : ∃ r, Th (dropsU u) (putsV u) r ∧ nf r = nf u := by
  have e : ∀ (v : List Un), ∃ r, Th (dropsU v) (putsV v) r ∧ asks r = asks v ∧ asks (inv r) = asks (inv v) := by
    intro v
    induction v with
    | nil => exact ⟨[], .nl, rfl, rfl⟩
    | cons x v ih =>
      obtain ⟨r, h1, h2, h3⟩ := ih
      cases x with
      | k => exact ⟨.k :: r, by simpa using Th.kk h1, by simp [h2], by simp [h3]⟩
      | p c => exact ⟨.p c :: r, by simpa using Th.pp h1, by simp [h2], by simp [h3]⟩
      | d c => exact ⟨.d c :: r, by simpa using Th.dd h1, by simp [h2], by simp [h3]⟩
  obtain ⟨r, h1, h2, h3⟩ := e u
  exact ⟨r, h1, nf_of_asks h2 h3⟩
theorem cst_parts (u : List Un) : cst (dropsU u) + cst (putsV u) = cst u := by
  induction u with
  | nil => rfl
  | cons x u ih => cases x <;> simp <;> omega
theorem aft_drops (u : List Un) : aft (dropsU u) = kept u := by
  induction u with
  | nil => rfl
  | cons x u ih => cases x <;> simp [ih]
theorem drops_puts (u : List Un) : dropsU (putsV u) = List.replicate (kept u) .k := by
  induction u with
  | nil => rfl
  | cons x u ih => cases x <;> simp [ih, List.replicate_succ]
theorem puts_drops (u : List Un) : putsV (dropsU u) = List.replicate (kept u) .k := by
  induction u with
  | nil => rfl
  | cons x u ih => cases x <;> simp [ih, List.replicate_succ]
theorem drops_congr {u v : List Un} (h : nf u = nf v) : nf (dropsU u) = nf (dropsU v) := by
  have e : ∀ w : List Un, asks (dropsU w) = asks w ∧ asks (inv (dropsU w)) = List.replicate (kept w) none := by
    intro w
    induction w with
    | nil => exact ⟨rfl, rfl⟩
    | cons x w ih => cases x <;> simp [ask, ih, List.replicate_succ]
  have ek : kept u = kept v := by
    have h1 := (e u).2; have h2 := (e v).2
    have a1 : ∀ w : List Un, kept w = ((asks w).filter fun x => x.isNone).length := by
      intro w
      induction w with
      | nil => rfl
      | cons x w ih => cases x <;> simp [ask, ih, List.filter_cons]
    rw [a1 u, a1 v, asks_of_nf h]
  exact nf_of_asks (by rw [(e u).1, (e v).1, asks_of_nf h]) (by rw [(e u).2, (e v).2, ek])
theorem puts_congr {u v : List Un} (h : nf u = nf v) : nf (putsV u) = nf (putsV v) := by
  have e : ∀ w : List Un, inv (putsV w) = dropsU (inv w) := by
    intro w
    induction w with
    | nil => rfl
    | cons x w ih => cases x <;> simp [ih]
  have e2 : ∀ w : List Un, putsV w = inv (dropsU (inv w)) := fun w => by rw [← e, inv_inv]
  rw [e2 u, e2 v]
  exact nf_inv (drops_congr (nf_inv h))
/-! ### cut -/
def cutU : Nat → List Un → List Un × List Un
  | _, [] => ([], [])
  | 0, .p c :: us => (.p c :: (cutU 0 us).1, (cutU 0 us).2)
  | 0, .k :: us => ([], .k :: us)
  | 0, .d c :: us => ([], .d c :: us)
  | n + 1, .p c :: us => (.p c :: (cutU (n + 1) us).1, (cutU (n + 1) us).2)
  | n + 1, .k :: us => (.k :: (cutU n us).1, (cutU n us).2)
  | n + 1, .d c :: us => (.d c :: (cutU n us).1, (cutU n us).2)
theorem cutU_app (us : List Un) : ∀ n, (cutU n us).1 ++ (cutU n us).2 = us := by
  induction us with
  | nil => intro n; cases n <;> rfl
  | cons u us ih => intro n; cases n <;> cases u <;> simp [cutU, ih]
theorem cutU_bef (us : List Un) : ∀ n, n ≤ bef us → bef (cutU n us).1 = n := by
  induction us with
  | nil => intro n h; simp at h; subst h; rfl
  | cons u us ih => intro n h; cases n <;> cases u <;> simp [cutU] at h ⊢ <;> exact ih _ (by omega)
theorem cutU_hp (us : List Un) : ∀ n, n ≤ bef us → hp (cutU n us).2 = false := by
  induction us with
  | nil => intro n h; simp at h; subst h; rfl
  | cons u us ih => intro n h; cases n <;> cases u <;> simp [cutU] at h ⊢ <;> first | rfl | exact ih _ (by omega)
theorem cutU_0 {us : List Un} (h : hp us = false) : cutU 0 us = ([], us) := by
  cases us with
  | nil => rfl
  | cons u us => cases u <;> first | cases h; done | rfl
theorem nf_hp {us : List Un} (h : hp us = false) : hp (nf us) = false := by
  have e : ∀ (us : List Un) (g n : Tx), g ≠ [] → hp (nfA us g n) = false := by
    intro us
    induction us with
    | nil => intro g n h; cases g with
      | nil => exact absurd rfl h
      | cons c g => rfl
    | cons u us ih =>
      intro g n h
      cases u with
      | k => cases g with
        | nil => exact absurd rfl h
        | cons c g => rfl
      | d c => exact ih _ _ (by simp)
      | p c => exact ih _ _ h
  cases us with
  | nil => rfl
  | cons u us => cases u with
    | p c => cases h
    | k => rfl
    | d c => exact e us _ _ (by simp)
/-! ### singles -/
def single (a : Nat) (u : Un) (b : Nat) : List Un := List.replicate a .k ++ u :: List.replicate b .k
def sgl : List Un → List Un → List (List Un)
  | _, [] => []
  | pre, .k :: us => sgl (pre ++ [.k]) us
  | pre, .p c :: us => single (aft pre) (.p c) (bef us) :: sgl (pre ++ [.p c]) us
  | pre, .d c :: us => single (aft pre) (.d c) (bef us) :: sgl (pre ++ [.d c]) us
theorem sgl_len (us : List Un) : ∀ pre, (sgl pre us).length = cst us := by
  induction us with
  | nil => intro pre; rfl
  | cons u us ih => intro pre; cases u <;> simp [sgl, ih]
theorem th_kk (n : Nat) : Th (List.replicate n .k) (List.replicate n .k) (List.replicate n .k) := by
  induction n with
  | zero => exact .nl
  | succ n ih => rw [List.replicate_succ]; exact .kk ih
theorem sgl_all (us : List Un) : ∀ (pre : List Un) (f : List Pt), nf (uns f) = nf (pre ++ List.replicate (bef us) .k) → allT f ((sgl pre us).map ou) = some (M.form (ou (pre ++ us))) ∨ (cst us = 0 ∧ (sgl pre us) = []) := by
  induction us with
  | nil => intro pre f h; exact .inr ⟨rfl, rfl⟩
  | cons u us ih =>
    intro pre f h
    have go : ∀ (u : Un), nk u = true → nf (uns f) = nf (pre ++ List.replicate (bef (u :: us)) .k) → ∃ r, Th (uns f) (uns (ou (single (aft pre) u (bef us)))) r ∧ nf r = nf ((pre ++ [u]) ++ List.replicate (bef us) .k) := by
      intro u hu h
      have T1 := Th.nl_r pre
      have T2 : Th (List.replicate (bef (u :: us)) .k) (u :: List.replicate (bef us) .k) (u :: List.replicate (bef us) .k) := by
        cases u with
        | k => cases hu
        | p c => rw [bef_p]; exact .pp (th_kk _)
        | d c => rw [bef_d, List.replicate_succ]; exact .kd (th_kk _)
      obtain ⟨r, T, n⟩ := (T1.app T2).ex' (a' := uns f) (b' := uns (ou (single (aft pre) u (bef us)))) h (nf_uns_ou _)
      exact ⟨r, T, by rw [n]; simp⟩
    cases u with
    | k =>
      rw [sgl]
      rcases ih (pre ++ [.k]) f (by rw [h]; simp [List.replicate_succ]) with h1 | h1
      · left; rw [h1]; simp
      · right; exact ⟨by simpa using h1.1, h1.2⟩
    | p c =>
      left
      obtain ⟨r, T, n⟩ := go (.p c) rfl h
      rw [sgl, List.map_cons, allT_th T]
      rcases ih (pre ++ [.p c]) (ou r) (by rw [nf_uns_ou, n]) with h1 | h1
      · rw [h1]; simp
      · rw [h1.2, List.map_nil, allT]
        congr 1
        rw [form_ou]
        refine ou_eq.mpr (n.trans ?_)
        have : us = List.replicate (bef us) .k := by
          have := h1.1
          clear ih h go T n h1 r
          induction us with
          | nil => rfl
          | cons x us ih => cases x with
            | k => rw [bef_k, List.replicate_succ, ← ih (by simpa using this)]
            | p c => simp at this
            | d c => simp at this
        rw [← this]; simp
    | d c =>
      left
      obtain ⟨r, T, n⟩ := go (.d c) rfl h
      rw [sgl, List.map_cons, allT_th T]
      rcases ih (pre ++ [.d c]) (ou r) (by rw [nf_uns_ou, n]) with h1 | h1
      · rw [h1]; simp
      · rw [h1.2, List.map_nil, allT]
        congr 1
        rw [form_ou]
        refine ou_eq.mpr (n.trans ?_)
        have : us = List.replicate (bef us) .k := by
          have := h1.1
          clear ih h go T n h1 r
          induction us with
          | nil => rfl
          | cons x us ih => cases x with
            | k => rw [bef_k, List.replicate_succ, ← ih (by simpa using this)]
            | p c => simp at this
            | d c => simp at this
        rw [← this]; simp
theorem cst0 {us : List Un} (h : cst us = 0) : us = List.replicate (bef us) .k := by
  induction us with
  | nil => rfl
  | cons x us ih => cases x with
    | k => rw [bef_k, List.replicate_succ, ← ih (by simpa using h)]
    | p c => simp at h
    | d c => simp at h
theorem cst_rep (n : Nat) : cst (List.replicate n Un.k) = 0 := by
  induction n with
  | zero => rfl
  | succ n ih => rw [List.replicate_succ, cst_k, ih]
theorem sgl_mem (us : List Un) : ∀ (pre : List Un) (s : List Un), s ∈ sgl pre us → cst s = 1 ∧ s.length ≤ pre.length + us.length := by
  induction us with
  | nil => intro pre s h; cases h
  | cons u us ih =>
    intro pre s h
    have go : ∀ (u : Un), nk u = true → s = single (aft pre) u (bef us) → cst s = 1 ∧ s.length ≤ pre.length + (us.length + 1) := by
      intro u hu e
      subst e
      have a1 : aft pre ≤ pre.length := List.length_filter_le _ _
      have a2 : bef us ≤ us.length := List.length_filter_le _ _
      refine ⟨?_, by simp [single]; omega⟩
      unfold single
      rw [cst_app, cst_rep]
      cases u with
      | k => cases hu
      | p c => simp [cst_rep]
      | d c => simp [cst_rep]
    cases u with
    | k => have := ih _ s h; simp at this ⊢; omega
    | p c =>
      rcases List.mem_cons.mp h with h | h
      · exact go _ rfl h
      · have := ih _ s h; simp at this ⊢; omega
    | d c =>
      rcases List.mem_cons.mp h with h | h
      · exact go _ rfl h
      · have := ih _ s h; simp at this ⊢; omega
theorem sumL_le {M : Nat} : ∀ {cs : List (List Pt)}, (∀ c ∈ cs, (uns c).length ≤ M) → sumL cs ≤ cs.length * M
  | [], _ => by simp
  | c :: cs, h => by
    have h1 := h c (by simp)
    have h2 := sumL_le (cs := cs) fun d hd => h d (by simp [hd])
    simp only [sumL_cons, List.length_cons, Nat.add_mul, Nat.one_mul]; omega
end G81.M

/-! What drops_of, puts_of, joined, cut, singles, only answer. -/
namespace G81
open PySem M
theorem f_drops_eq (c : List Pt) (h : (uns c).length ≤ 100000) : f_drops_of [encC c] = .ok (encC (ou (dropsU (uns c)))) := by
  have h2 : startE N_drops_of [encC c] = [some (encC c), none] := rfl
  have l : (uns c).length ≤ line := by rw [line_v]; omega
  have hlc := lcF_fm (tgt := tsN 1) (tst := tCm dNe (eOp dIx (eVar 1) (eInt 0)) (eStr "put")) (elt := eVar 1) (env := [some (encC c), none]) encU np encU (uns c) (fun u _ => ⟨_, rfl, by cases u <;> simp [encU], fun _ => by cases u <;> simp [encU]⟩)
  have h3 := f_of_units_eq (dropsU (uns c)) (by have := List.length_filter_le np (uns c); simp only [dropsU]; omega)
  simp only [dropsU, encUs] at h3
  simp only [f_drops_of, s_drops_of, h2]
  simp [f_units_of_eq c h, encUs, l]
  simp [hlc, h3, dropsU]
theorem f_puts_eq (c : List Pt) (h : (uns c).length ≤ 100000) : f_puts_of [encC c] = .ok (encC (ou (putsV (nf (uns c))))) := by
  have h2 : startE N_puts_of [encC c] = [some (encC c), none] := rfl
  have l : (uns c).length ≤ line := by rw [line_v]; omega
  have e1 := f_units_of_eq (form c) (by rw [uns_form]; simpa using h)
  rw [uns_form] at e1
  have hlc := lcF_fm (tgt := tsN 1) (tst := tCm dNe (eOp dIx (eVar 1) (eInt 0)) (eStr "drop")) (elt := eVar 1) (env := [some (encC c), none]) encU nd encU (nf (uns c)) (fun u _ => ⟨_, rfl, by cases u <;> simp [encU], fun _ => by cases u <;> simp [encU]⟩)
  have h3 := f_of_units_eq (putsV (nf (uns c))) (by have := List.length_filter_le nd (nf (uns c)); simp only [putsV]; simp at this; omega)
  simp only [putsV, encUs] at h3
  simp only [f_puts_of, s_puts_of, h2]
  simp [f_form_eq c h, e1, encUs, l]
  simp [hlc, h3, putsV]
theorem f_joined_eq (a b : List Pt) (ha : (uns a).length ≤ 90000) (hb : (uns b).length ≤ 90000) : f_joined [encC a, encC b] = .ok (encC (ou (uns a ++ uns b))) := by
  have h2 : startE N_joined [encC a, encC b] = [some (encC a), some (encC b)] := rfl
  have l : (uns a).length + (uns b).length ≤ line := by rw [line_v]; omega
  have h3 := f_of_units_eq (uns a ++ uns b) (by simp; omega)
  simp [encUs] at h3
  simp [f_joined, s_joined, h2, f_units_of_eq a (by omega), f_units_of_eq b (by omega), encUs, l, h3]
theorem cut_loop (C P : Option D) (p : Nat) : ∀ (us : List Un) (f s : List Un) (g : Nat) (z : Option D), f.length + s.length + us.length ≤ 200000 →
    ∃ g' z', forF (tsN 5) b_cut_0 (us.map encU) [C, some (.int p), some (.lst (f.map encU)), some (.lst (s.map encU)), some (.int g), z] = .nx [C, some (.int p), some (.lst ((f ++ if g ≤ p then (cutU (p - g) us).1 else []).map encU)), some (.lst ((s ++ if g ≤ p then (cutU (p - g) us).2 else us).map encU)), g', z']
  | [], f, s, g, z, h => ⟨some (.int g), z, by cases hg : p - g <;> simp [cutU]⟩
  | u :: us, f, s, g, z, h => by
    have lv := line_v
    simp at h
    have l1 : f.length < line := by omega
    have l2 : s.length < line := by omega
    rw [List.map_cons]
    simp only [forF_step]
    rcases Nat.lt_trichotomy g p with hg | hg | hg
    · have hi : (g : Int) < p := by omega
      cases u with
      | p c =>
        have e : sOf (tsN 5 (encU (.p c)) [C, some (.int p), some (.lst (f.map encU)), some (.lst (s.map encU)), some (.int g), z]) b_cut_0 = .nx [C, some (.int p), some (.lst ((f ++ [Un.p c]).map encU)), some (.lst (s.map encU)), some (.int g), some (encU (.p c))] := by
          simp [b_cut_0, encU, hg, l1]
        rw [e]
        obtain ⟨g', z', q⟩ := cut_loop C P p us (f ++ [Un.p c]) s g (some (encU (.p c))) (by simp; omega)
        refine ⟨g', z', ?_⟩
        refine Eq.trans q ?_
        obtain ⟨k, hk⟩ : ∃ k, p - g = k + 1 := ⟨p - g - 1, by omega⟩
        simp [hk, cutU, Nat.le_of_lt hg]
      | k =>
        have e : sOf (tsN 5 (encU .k) [C, some (.int p), some (.lst (f.map encU)), some (.lst (s.map encU)), some (.int g), z]) b_cut_0 = .nx [C, some (.int p), some (.lst ((f ++ [Un.k]).map encU)), some (.lst (s.map encU)), some (.int (g + 1 : Nat)), some (encU .k)] := by
          simp [b_cut_0, encU, hg, l1]
        rw [e]
        obtain ⟨g', z', q⟩ := cut_loop C P p us (f ++ [Un.k]) s (g + 1) (some (encU .k)) (by simp; omega)
        refine ⟨g', z', ?_⟩
        refine Eq.trans q ?_
        have hk : p - g = (p - (g + 1)) + 1 := by omega
        rw [hk]
        simp [cutU, Nat.le_of_lt hg, Nat.succ_le_of_lt hg]
      | d c =>
        have e : sOf (tsN 5 (encU (.d c)) [C, some (.int p), some (.lst (f.map encU)), some (.lst (s.map encU)), some (.int g), z]) b_cut_0 = .nx [C, some (.int p), some (.lst ((f ++ [Un.d c]).map encU)), some (.lst (s.map encU)), some (.int (g + 1 : Nat)), some (encU (.d c))] := by
          simp [b_cut_0, encU, hg, l1]
        rw [e]
        obtain ⟨g', z', q⟩ := cut_loop C P p us (f ++ [Un.d c]) s (g + 1) (some (encU (.d c))) (by simp; omega)
        refine ⟨g', z', ?_⟩
        refine Eq.trans q ?_
        have hk : p - g = (p - (g + 1)) + 1 := by omega
        rw [hk]
        simp [cutU, Nat.le_of_lt hg, Nat.succ_le_of_lt hg]
    · subst hg
      cases u with
      | p c =>
        have e : sOf (tsN 5 (encU (.p c)) [C, some (.int g), some (.lst (f.map encU)), some (.lst (s.map encU)), some (.int g), z]) b_cut_0 = .nx [C, some (.int g), some (.lst ((f ++ [Un.p c]).map encU)), some (.lst (s.map encU)), some (.int g), some (encU (.p c))] := by
          simp [b_cut_0, encU, l1]
        rw [e]
        obtain ⟨g', z', q⟩ := cut_loop C P g us (f ++ [Un.p c]) s g (some (encU (.p c))) (by simp; omega)
        refine ⟨g', z', ?_⟩
        refine Eq.trans q ?_
        simp [cutU]
      | k =>
        have e : sOf (tsN 5 (encU .k) [C, some (.int g), some (.lst (f.map encU)), some (.lst (s.map encU)), some (.int g), z]) b_cut_0 = .nx [C, some (.int g), some (.lst (f.map encU)), some (.lst ((s ++ [Un.k]).map encU)), some (.int (g + 1 : Nat)), some (encU .k)] := by
          simp [b_cut_0, encU, l2]
        rw [e]
        obtain ⟨g', z', q⟩ := cut_loop C P g us f (s ++ [Un.k]) (g + 1) (some (encU .k)) (by simp; omega)
        refine ⟨g', z', ?_⟩
        refine Eq.trans q ?_
        have hg' : ¬ g + 1 ≤ g := by omega
        simp [cutU, hg']
      | d c =>
        have e : sOf (tsN 5 (encU (.d c)) [C, some (.int g), some (.lst (f.map encU)), some (.lst (s.map encU)), some (.int g), z]) b_cut_0 = .nx [C, some (.int g), some (.lst (f.map encU)), some (.lst ((s ++ [Un.d c]).map encU)), some (.int (g + 1 : Nat)), some (encU (.d c))] := by
          simp [b_cut_0, encU, l2]
        rw [e]
        obtain ⟨g', z', q⟩ := cut_loop C P g us f (s ++ [Un.d c]) (g + 1) (some (encU (.d c))) (by simp; omega)
        refine ⟨g', z', ?_⟩
        refine Eq.trans q ?_
        have hg' : ¬ g + 1 ≤ g := by omega
        simp [cutU, hg']
    · have h1 : ¬ (g : Int) < p := by omega
      have h2 : ¬ (g : Int) = p := by omega
      have h3 : ¬ g ≤ p := by omega
      have h4 : ¬ g < p := by omega
      have h5 : ¬ g = p := by omega
      obtain ⟨G, e⟩ : ∃ G : Nat, p < G ∧ sOf (tsN 5 (encU u) [C, some (.int p), some (.lst (f.map encU)), some (.lst (s.map encU)), some (.int g), z]) b_cut_0 = .nx [C, some (.int p), some (.lst (f.map encU)), some (.lst ((s ++ [u]).map encU)), some (.int G), some (encU u)] := by
        cases u with
        | p c => exact ⟨g, hg, by simp [b_cut_0, encU, h4, h2, l2]⟩
        | k => exact ⟨g + 1, by omega, by simp [b_cut_0, encU, h4, h2, l2]⟩
        | d c => exact ⟨g + 1, by omega, by simp [b_cut_0, encU, h4, h2, l2]⟩
      rw [e.2]
      obtain ⟨g', z', q⟩ := cut_loop C P p us f (s ++ [u]) G (some (encU u)) (by simp; omega)
      refine ⟨g', z', ?_⟩
      refine Eq.trans q ?_
      have h6 : ¬ G ≤ p := by omega
      simp [h3, h6]
theorem cutU_len (us : List Un) (n : Nat) : (cutU n us).1.length ≤ us.length ∧ (cutU n us).2.length ≤ us.length := by
  have := congrArg List.length (cutU_app us n)
  simp at this; omega
theorem f_cut_eq (c : List Pt) (p : Nat) (h : (uns c).length ≤ 90000) (hp : p ≤ bef (uns c)) : f_cut [encC c, .int p] = .ok (.tup [encC (ou (cutU p (nf (uns c))).1), encC (ou (cutU p (nf (uns c))).2)]) := by
  have h2 : startE N_cut [encC c, .int p] = [some (encC c), some (.int p), none, none, none, none] := rfl
  have e1 := f_units_of_eq (form c) (by rw [uns_form]; simp; omega)
  rw [uns_form] at e1
  obtain ⟨g', z', g⟩ := cut_loop (some (encC c)) none p (nf (uns c)) [] [] 0 none (by simp; omega)
  have g := cut_loop (some (encC c)) none p (nf (uns c)) [] [] 0 none (by simp; omega)
  obtain ⟨g', z', g⟩ := g
  have hl := cutU_len (nf (uns c)) p
  simp at hl
  have u1 := f_of_units_eq (cutU p (nf (uns c))).1 (by omega)
  have u2 := f_of_units_eq (cutU p (nf (uns c))).2 (by omega)
  have hp0 : (0 : Int) ≤ p := by omega
  have hp1 : (p : Int) ≤ bef (uns c) := by omega
  simp only [f_cut, s_cut, h2]
  simp [encUs] at g u1 u2
  simp [f_before_eq c (by omega), f_form_eq c (by omega), e1, encUs, hp0, hp1, hp, g, u1, u2]
theorem f_cut_no (c : List Pt) (p : Int) (h : (uns c).length ≤ 90000) (hp : p < 0 ∨ bef (uns c) < p) : f_cut [encC c, .int p] = .err "NoPlace" := by
  have h2 : startE N_cut [encC c, .int p] = [some (encC c), some (.int p), none, none, none, none] := rfl
  simp only [f_cut, s_cut, h2]
  by_cases h0 : 0 ≤ p
  · have : ¬ p ≤ bef (uns c) := by omega
    simp [f_before_eq c (by omega), h0, this]
  · simp [f_before_eq c (by omega), h0]
theorem nf_one (u : Un) : nf [u] = [u] := by cases u <;> rfl
theorem singles_loop (C : Option D) (all : List Un) (ha : all.length ≤ 20000) : ∀ (us pre : List Un) (acc : List (List Pt)) (a4 a5 a6 a7 : Option D), all = pre ++ us → acc.length ≤ pre.length →
    ∃ b3 b4 b5 b6, forF (tsT [3, 4]) b_singles_0 (enD pre.length (us.map encU)) [C, some (.lst (all.map encU)), some (.lst (acc.map encC)), a4, a5, a6, a7, none] = .nx [C, some (.lst (all.map encU)), some (.lst ((acc ++ (sgl pre us).map ou).map encC)), b3, b4, b5, b6, none]
  | [], pre, acc, a4, a5, a6, a7, _, _ => ⟨a4, a5, a6, a7, by simp [enD, sgl]⟩
  | u :: us, pre, acc, a4, a5, a6, a7, hall, hacc => by
    have lv := line_v
    have hlen : pre.length + us.length + 1 = all.length := by rw [hall]; simp; omega
    rw [List.map_cons, enD]
    simp only [forF_step]
    have hall2 : all = (pre ++ [u]) ++ us := by rw [hall]; simp
    by_cases hk : nk u = true
    · have c1 : cutL (all.map encU) none (some (pre.length : Int)) = pre.map encU := by rw [cutL_take, hall]; simp
      have c2 : cutL (all.map encU) (some ((pre.length : Int) + 1)) none = us.map encU := by
        have := cutL_drop (all.map encU) (pre.length + 1)
        rw [show ((pre.length + 1 : Nat) : Int) = (pre.length : Int) + 1 by omega] at this
        rw [this, hall2, ← List.map_drop, List.drop_left' (by simp)]
      have lc1 := lcF_fm (tgt := tsN 7) (tst := tCm dNe (eOp dIx (eVar 7) (eInt 0)) (eStr "drop")) (elt := eVar 7) (env := [C, some (.lst (all.map encU)), some (.lst (acc.map encC)), some (.int pre.length), some (encU u), a6, a7, none]) encU nd encU pre (fun u _ => ⟨_, rfl, by cases u <;> simp [encU], fun _ => by cases u <;> simp [encU]⟩)
      have lc2 := lcF_fm (tgt := tsN 7) (tst := tCm dNe (eOp dIx (eVar 7) (eInt 0)) (eStr "put")) (elt := eVar 7) (env := [C, some (.lst (all.map encU)), some (.lst (acc.map encC)), some (.int pre.length), some (encU u), some (.int (aft pre)), a7, none]) encU np encU us (fun u _ => ⟨_, rfl, by cases u <;> simp [encU], fun _ => by cases u <;> simp [encU]⟩)
      have ap : aft pre ≤ pre.length := List.length_filter_le _ _
      have bu : bef us ≤ us.length := List.length_filter_le _ _
      have n1 := f_nothing_eq (aft pre) (by omega)
      have n2 := f_nothing_eq (bef us) (by omega)
      have u1 := f_of_units_eq [u] (by simp)
      have j1 := f_joined_eq (M.nothing (aft pre)) (ou [u]) (by simp; omega) (by rw [ou_len]; simp)
      have j2 := f_joined_eq (ou (uns (M.nothing (aft pre)) ++ uns (ou [u]))) (M.nothing (bef us)) (by rw [ou_len]; simp [ou_len]; omega) (by simp; omega)
      have js : ou (uns (ou (uns (M.nothing (aft pre)) ++ uns (ou [u]))) ++ uns (M.nothing (bef us))) = ou (single (aft pre) u (bef us)) := by
        refine ou_eq.mpr ?_
        have e1 : nf (uns (ou (uns (M.nothing (aft pre)) ++ uns (ou [u])))) = nf (List.replicate (aft pre) .k ++ [u]) := by
          rw [nf_uns_ou, uns_nothing, uns_ou, nf_one]; rfl
        rw [nf_app e1 (nf_nothing (bef us))]
        simp [single]
      rw [js] at j2
      have l0 : pre.length ≤ line := by omega
      have l1 : us.length ≤ line := by omega
      have l2 : acc.length < line := by omega
      have e : sOf (tsT [3, 4] (.tup [.int pre.length, encU u]) [C, some (.lst (all.map encU)), some (.lst (acc.map encC)), a4, a5, a6, a7, none]) b_singles_0 = .nx [C, some (.lst (all.map encU)), some (.lst ((acc ++ [ou (single (aft pre) u (bef us))]).map encC)), some (.int pre.length), some (encU u), some (.int (aft pre)), some (.int (bef us)), none] := by
        have hne : (dIx (encU u) (.int 0)).bind (fun a => dNe a (.str ['k','e','e','p'])) = .ok true := by cases u <;> first | cases hk; done | simp [encU]
        have n1 : f_nothing [.int (aft pre)] = .ok (encC (M.nothing (aft pre))) := n1
        have n2 : f_nothing [.int (bef us)] = .ok (encC (M.nothing (bef us))) := n2
        simp [encUs] at u1
        simp [b_singles_0, hne, c1, c2, l0, l1]
        rw [lc1]
        simp
        rw [show (List.filter nd pre).length = aft pre from rfl]
        simp [c2, l1]
        rw [lc2]
        simp
        rw [show (List.filter np us).length = bef us from rfl]
        simp [n1, n2, u1, j1, j2, l2]
      rw [e]
      obtain ⟨b3, b4, b5, b6, q⟩ := singles_loop C all ha us (pre ++ [u]) (acc ++ [ou (single (aft pre) u (bef us))]) (some (.int pre.length)) (some (encU u)) (some (.int (aft pre))) (some (.int (bef us))) hall2 (by simp; omega)
      refine ⟨b3, b4, b5, b6, ?_⟩
      rw [List.length_append] at q
      refine Eq.trans q ?_
      cases u with
      | k => cases hk
      | p c => simp [sgl]
      | d c => simp [sgl]
    · cases u with
      | p c => exact absurd rfl hk
      | d c => exact absurd rfl hk
      | k =>
        have e : sOf (tsT [3, 4] (.tup [.int pre.length, encU .k]) [C, some (.lst (all.map encU)), some (.lst (acc.map encC)), a4, a5, a6, a7, none]) b_singles_0 = .nx [C, some (.lst (all.map encU)), some (.lst (acc.map encC)), some (.int pre.length), some (encU .k), a6, a7, none] := by
          simp [b_singles_0, encU]
        rw [e]
        obtain ⟨b3, b4, b5, b6, q⟩ := singles_loop C all ha us (pre ++ [.k]) acc (some (.int pre.length)) (some (encU .k)) a6 a7 hall2 (by simp; omega)
        refine ⟨b3, b4, b5, b6, ?_⟩
        rw [List.length_append] at q
        refine Eq.trans q ?_
        simp [sgl]
theorem f_singles_eq (c : List Pt) (h : (uns c).length ≤ 20000) : f_singles [encC c] = .ok (.lst (((sgl [] (nf (uns c))).map ou).map encC)) := by
  have h2 : startE N_singles [encC c] = [some (encC c), none, none, none, none, none, none, none] := rfl
  have e1 := f_units_of_eq (form c) (by rw [uns_form]; simp; omega)
  rw [uns_form] at e1
  obtain ⟨b3, b4, b5, b6, q⟩ := singles_loop (some (encC c)) (nf (uns c)) (by simpa using h) (nf (uns c)) [] [] none none none none rfl (by simp)
  simp only [f_singles, s_singles, h2]
  simp at q
  simp [f_form_eq c (by omega), e1, encUs, q]
/-- what is done between two places, all else kept -/
def onlyU (u : List Un) (p e : Nat) : List Un := kk p ++ ((cutU (e - p) (nf (cutU p (nf u)).2)).1 ++ kk (bef (cutU (e - p) (nf (cutU p (nf u)).2)).2))
theorem f_only_eq (c : List Pt) (p e : Nat) (h : (uns c).length ≤ 20000) (hp : p ≤ e) (he : e ≤ bef (uns c)) : f_only [encC c, .int p, .int e] = .ok (encC (ou (onlyU (uns c) p e))) := by
  have h2 : startE N_only [encC c, .int p, .int e] = [some (encC c), some (.int p), some (.int e), none, none, none, none, none] := rfl
  have hl := cutU_len (nf (uns c)) p
  simp only [nf_len] at hl
  have hb : bef (cutU p (nf (uns c))).1 = p := cutU_bef _ _ (by rw [bef_nf]; omega)
  have hb2 : bef (cutU p (nf (uns c))).1 + bef (cutU p (nf (uns c))).2 = bef (uns c) := by rw [← bef_app, cutU_app, bef_nf]
  have e1 := f_cut_eq c p (by omega) (by omega)
  generalize hA : cutU p (nf (uns c)) = A at *
  have e2 := f_cut_eq (ou A.2) (e - p) (by rw [ou_len]; omega) (by rw [uns_ou, bef_nf]; omega)
  rw [uns_ou, nf_nf] at e2
  have hl2 := cutU_len (nf A.2) (e - p)
  simp only [nf_len] at hl2
  have ep : ((e : Int) - p) = ((e - p : Nat) : Int) := by omega
  have e3 := f_before_eq (ou A.1) (by rw [ou_len]; omega)
  rw [uns_ou, bef_nf, hb] at e3
  unfold onlyU
  rw [hA]
  generalize hB : cutU (e - p) (nf A.2) = B at *
  have e4 := f_before_eq (ou B.2) (by rw [ou_len]; omega)
  rw [uns_ou, bef_nf] at e4
  have bB : bef B.2 ≤ B.2.length := List.length_filter_le _ _
  have bp : p ≤ 20000 := by have : bef (uns c) ≤ (uns c).length := List.length_filter_le _ _; omega
  have n1 : f_nothing [.int p] = .ok (encC (M.nothing p)) := f_nothing_eq p (by omega)
  have n2 : f_nothing [.int (bef B.2)] = .ok (encC (M.nothing (bef B.2))) := f_nothing_eq (bef B.2) (by omega)
  have j1 := f_joined_eq (M.nothing p) (ou B.1) (by simp; omega) (by rw [ou_len]; omega)
  have j2 := f_joined_eq (ou (uns (M.nothing p) ++ uns (ou B.1))) (M.nothing (bef B.2)) (by rw [ou_len]; simp [ou_len]; omega) (by simp; omega)
  have js : ou (uns (ou (uns (M.nothing p) ++ uns (ou B.1))) ++ uns (M.nothing (bef B.2))) = ou (kk p ++ (B.1 ++ kk (bef B.2))) := by
    refine ou_eq.mpr ?_
    have e1 : nf (uns (ou (uns (M.nothing p) ++ uns (ou B.1)))) = nf (kk p ++ B.1) := by
      rw [nf_uns_ou]
      exact nf_app (nf_nothing p) (nf_uns_ou B.1)
    rw [nf_app e1 (nf_nothing (bef B.2)), List.append_assoc]; rfl
  rw [js] at j2
  simp only [f_only, s_only, h2]
  simp [e1, ep, e2, e3, e4, n1, n2, j1, j2]
end G81

/-! Places. -/
namespace G81
namespace M
/-- where a place comes to; b: behind what is put there -/
def plc : List Un → Nat → Nat → Bool → Nat
  | [], _, _, _ => 0
  | .p _ :: us, g, p, b => (if g < p ∨ (g = p ∧ b = true) then 1 else 0) + plc us g p b
  | .k :: us, g, p, b => (if g < p then 1 else 0) + plc us (g + 1) p b
  | .d _ :: us, g, p, b => plc us (g + 1) p b
end M
open PySem M
theorem place_loop (A : Option D) (p : Nat) (s : Tx) : ∀ (us : List Un) (g f : Nat) (x y : Option D), ∃ g' x' y', forF (tsT [5, 6]) b_place_after_0 (us.map encU) [A, some (.int p), some (.str s), some (.int g), some (.int f), x, y] = .nx [A, some (.int p), some (.str s), g', some (.int (f + plc us g p (decide (s = ['b','e','h','i','n','d'])) : Nat)), x', y']
  | [], g, f, x, y => ⟨_, x, y, by simp [plc]; rfl⟩
  | u :: us, g, f, x, y => by
    rw [List.map_cons]
    simp only [forF_step]
    cases u with
    | p c =>
      have e : sOf (tsT [5, 6] (encU (.p c)) [A, some (.int p), some (.str s), some (.int g), some (.int f), x, y]) b_place_after_0 = .nx [A, some (.int p), some (.str s), some (.int g), some (.int (f + (if g < p ∨ (g = p ∧ decide (s = ['b','e','h','i','n','d']) = true) then 1 else 0) : Nat)), some (.str ['p','u','t']), some (.str [c])] := by
        by_cases h1 : g < p
        · simp [b_place_after_0, encU, h1]
        · by_cases h2 : g = p
          · subst h2
            by_cases h3 : s = ['b','e','h','i','n','d'] <;> simp [b_place_after_0, encU, h3]
          · have h2' : ¬ (g : Int) = p := by omega
            simp [b_place_after_0, encU, h1, h2, h2']
      rw [e]
      obtain ⟨g', x', y', q⟩ := place_loop A p s us g (f + (if g < p ∨ (g = p ∧ decide (s = ['b','e','h','i','n','d']) = true) then 1 else 0)) (some (.str ['p','u','t'])) (some (.str [c]))
      exact ⟨g', x', y', by refine Eq.trans q ?_; simp [plc, Nat.add_assoc]⟩
    | k =>
      have e : sOf (tsT [5, 6] (encU .k) [A, some (.int p), some (.str s), some (.int g), some (.int f), x, y]) b_place_after_0 = .nx [A, some (.int p), some (.str s), some (.int (g + 1 : Nat)), some (.int (f + (if g < p then 1 else 0) : Nat)), some (.str ['k','e','e','p']), some (.str [])] := by
        by_cases h1 : g < p <;> simp [b_place_after_0, encU, h1]
      rw [e]
      obtain ⟨g', x', y', q⟩ := place_loop A p s us (g + 1) (f + (if g < p then 1 else 0)) (some (.str ['k','e','e','p'])) (some (.str []))
      exact ⟨g', x', y', by refine Eq.trans q ?_; simp [plc, Nat.add_assoc]⟩
    | d c =>
      have e : sOf (tsT [5, 6] (encU (.d c)) [A, some (.int p), some (.str s), some (.int g), some (.int f), x, y]) b_place_after_0 = .nx [A, some (.int p), some (.str s), some (.int (g + 1 : Nat)), some (.int f), some (.str ['d','r','o','p']), some (.str [c])] := by
        simp [b_place_after_0, encU]
      rw [e]
      obtain ⟨g', x', y', q⟩ := place_loop A p s us (g + 1) f (some (.str ['d','r','o','p'])) (some (.str [c]))
      exact ⟨g', x', y', by refine Eq.trans q ?_; simp [plc]⟩
theorem f_place_eq (c : List Pt) (p : Nat) (s : Tx) (h : (uns c).length ≤ 90000) (hp : p ≤ bef (uns c)) : f_place_after [encC c, .int p, .str s] = .ok (.int (plc (nf (uns c)) 0 p (decide (s = ['b','e','h','i','n','d'])))) := by
  have h2 : startE N_place_after [encC c, .int p, .str s] = [some (encC c), some (.int p), some (.str s), none, none, none, none] := rfl
  have e1 := f_units_of_eq (form c) (by rw [uns_form]; simp; omega)
  rw [uns_form] at e1
  obtain ⟨g', x', y', q⟩ := place_loop (some (encC c)) p s (nf (uns c)) 0 0 none none
  have hp0 : (0 : Int) ≤ p := by omega
  simp only [f_place_after, s_place_after, h2]
  simp at q
  simp [f_before_eq c (by omega), f_form_eq c (by omega), e1, encUs, hp, q]
theorem f_place_no (c : List Pt) (p : Int) (s : Tx) (h : (uns c).length ≤ 90000) (hp : p < 0 ∨ bef (uns c) < p) : f_place_after [encC c, .int p, .str s] = .err "NoPlace" := by
  have h2 : startE N_place_after [encC c, .int p, .str s] = [some (encC c), some (.int p), some (.str s), none, none, none, none] := rfl
  simp only [f_place_after, s_place_after, h2]
  by_cases h0 : 0 ≤ p
  · have : ¬ p ≤ bef (uns c) := by omega
    simp [f_before_eq c (by omega), h0, this]
  · simp [f_before_eq c (by omega), h0]
theorem f_sign_eq (c : List Pt) (p : Nat) (u : Un) (h : (uns c).length ≤ 90000) (hu : (dropsU (nf (uns c)))[p]? = some u) : f_sign_after [encC c, .int p] = .ok (if u = Un.k then .int (plc (nf (uns c)) 0 p true) else .non) := by
  have h2 : startE N_sign_after [encC c, .int p] = [some (encC c), some (.int p), none, none] := rfl
  have e1 := f_units_of_eq (form c) (by rw [uns_form]; simp; omega)
  rw [uns_form] at e1
  have l : (uns c).length ≤ line := by rw [line_v]; omega
  have hlt : p < bef (uns c) := by
    have h1 := (List.getElem?_eq_some_iff.mp hu).1
    have : (dropsU (nf (uns c))).length = bef (uns c) := by rw [← bef_nf (uns c)]; rfl
    omega
  have hlc := lcF_fm (tgt := tsN 3) (tst := tCm dNe (eOp dIx (eVar 3) (eInt 0)) (eStr "put")) (elt := eVar 3) (env := [some (encC c), some (.int p), none, none]) encU np encU (nf (uns c)) (fun u _ => ⟨_, rfl, by cases u <;> simp [encU], fun _ => by cases u <;> simp [encU]⟩)
  have hix : dIx (.lst ((List.filter np (nf (uns c))).map encU)) (.int p) = .ok (encU u) := by
    rw [dIx_nat_lst, List.getElem?_map, show (List.filter np (nf (uns c)))[p]? = some u from hu]; rfl
  have hpl := f_place_eq c p ['b','e','h','i','n','d'] h (by omega)
  simp at hpl
  simp only [f_sign_after, s_sign_after, h2]
  simp [f_before_eq c (by omega), f_form_eq c (by omega), e1, encUs, hlt, l]
  simp [hlc, hix]
  cases u <;> simp [encU, hpl]
end G81

/-! What asks_of, all_fit answer. -/
namespace G81
namespace M
def mg1 : Option Char → Option Char → Option (Option Char)
  | x, none => some x
  | none, some c => some (some c)
  | some d, some c => if d = c then some (some c) else none
def mgA : List (Option Char) → List (Option Char) → Option (List (Option Char))
  | [], [] => some []
  | x :: xs, y :: ys => (mg1 x y).bind fun z => (mgA xs ys).map fun zs => z :: zs
  | [], _ :: _ => none
  | _ :: _, [] => none
end M
open PySem M
theorem f_asks_eq (c : List Pt) (h : (uns c).length ≤ 100000) : f_asks_of [encC c] = .ok (.lst ((asks (uns c)).map encA)) := by
  have h2 : startE N_asks_of [encC c] = [some (encC c), none, none] := rfl
  have l : (uns c).length ≤ line := by rw [line_v]; omega
  have hlc := lcF_fm (tgt := tsT [1, 2]) (tst := tCm dNe (eVar 1) (eStr "put")) (elt := eVar 2) (env := [some (encC c), none, none]) encU np (fun u => match u with | .k => .str [] | .p c => .str [c] | .d c => .str [c]) (uns c) (fun u _ => by
    cases u <;> exact ⟨_, rfl, by simp, fun _ => by simp⟩)
  have e : ∀ us : List Un, (us.filter np).map (fun u => (match u with | .k => D.str [] | .p c => .str [c] | .d c => .str [c] : D)) = (asks us).map encA := by
    intro us
    induction us with
    | nil => rfl
    | cons u us ih => cases u <;> simp_all [M.ask, encA, List.filter_cons]
  rw [e] at hlc
  simp only [f_asks_of, s_asks_of, h2]
  simp [f_units_of_eq c h, encUs, l]
  simp [hlc]
theorem dEq_A0 (x : Option Char) : dEq (encA x) (.str []) = .ok (decide (x = none)) := en_A.dEq (by decide) x none
theorem dNe_A0 (x : Option Char) : dNe (encA x) (.str []) = .ok (!decide (x = none)) := en_A.dNe (by decide) x none
theorem ixN_nat (n i : Nat) (h : i < n) : L2.ixN n i = some i := by
  unfold L2.ixN
  rw [if_pos (by omega), if_pos (by omega)]; simp
theorem fit_in (A B C : Option D) : ∀ (ys xs pre : List (Option Char)) (x y : Option D), xs.length = ys.length →
    match mgA xs ys with
    | some zs => ∃ x' y', forF (tsT [4, 5]) b_all_fit_0 (enD pre.length (ys.map encA)) [A, some (.lst ((pre ++ xs).map encA)), B, C, x, y] = .nx [A, some (.lst ((pre ++ zs).map encA)), B, C, x', y']
    | none => forF (tsT [4, 5]) b_all_fit_0 (enD pre.length (ys.map encA)) [A, some (.lst ((pre ++ xs).map encA)), B, C, x, y] = .rt .non
  | [], [], pre, x, y, _ => ⟨x, y, by simp [enD]⟩
  | [], _ :: _, _, _, _, h => by simp at h
  | _ :: _, [], _, _, _, h => by simp at h
  | b :: ys, a :: xs, pre, x, y, h => by
    rw [List.map_cons, enD]
    simp only [forF_step]
    have hix : dIx (.lst ((pre ++ a :: xs).map encA)) (.int pre.length) = .ok (encA a) := by
      rw [dIx_nat_lst, List.getElem?_map]; simp
    have hi : L2.ixN (pre.length + (xs.length + 1)) (pre.length : Int) = some pre.length := ixN_nat _ _ (by omega)
    simp only [mgA]
    cases hm : mg1 a b with
    | none =>
      simp only [Option.bind_none]
      cases b with
      | none => cases a <;> simp [mg1] at hm
      | some c => cases a with
        | none => simp [mg1] at hm
        | some d =>
          simp [mg1] at hm
          have e : sOf (tsT [4, 5] (.tup [.int pre.length, encA (some c)]) [A, some (.lst ((pre ++ some d :: xs).map encA)), B, C, x, y]) b_all_fit_0 = .rt .non := by
            simp [encA] at hix
            simp [b_all_fit_0, encA, hix, dNotIn, dIn, inL, flD, Ne.symm hm, hm]
          rw [e]
    | some z =>
      have e : sOf (tsT [4, 5] (.tup [.int pre.length, encA b]) [A, some (.lst ((pre ++ a :: xs).map encA)), B, C, x, y]) b_all_fit_0 = .nx [A, some (.lst ((pre ++ z :: xs).map encA)), B, C, some (.int pre.length), some (encA b)] := by
        cases b with
        | none =>
          simp [mg1] at hm
          subst hm
          simp at hix
          simp [b_all_fit_0, sSetI, hi]
          simp [encA] at hix ⊢
          simp [hix, hi]
        | some c =>
          cases a with
          | none =>
            simp [mg1] at hm
            subst hm
            simp [encA] at hix ⊢
            simp [b_all_fit_0, sSetI, hi, hix, dNotIn, dIn, inL, flD]
          | some d =>
            simp [mg1] at hm
            obtain ⟨rfl, rfl⟩ := hm
            simp [encA] at hix ⊢
            simp [b_all_fit_0, sSetI, hi, hix, dNotIn, dIn, inL, flD]
      rw [e]
      have ih := fit_in A B C ys xs (pre ++ [z]) (some (.int pre.length)) (some (encA b)) (by simpa using h)
      cases hr : mgA xs ys with
      | none =>
        rw [hr] at ih
        simp at ih ⊢
        exact ih
      | some zs =>
        rw [hr] at ih
        simp at ih ⊢
        exact ih
namespace M
def mgAll (f : List (Option Char)) : List (List Pt) → Option (List (Option Char))
  | [] => some f
  | c :: cs => (mgA f (asks (uns c))).bind fun g => mgAll g cs
theorem mgA_len : ∀ {xs ys zs : List (Option Char)}, mgA xs ys = some zs → xs.length = ys.length ∧ zs.length = xs.length
  | [], [], _, h => by cases h; exact ⟨rfl, rfl⟩
  | [], _ :: _, _, h => by cases h
  | _ :: _, [], _, h => by cases h
  | x :: xs, y :: ys, zs, h => by
    simp only [mgA, Option.bind_eq_some_iff, Option.map_eq_some_iff] at h
    obtain ⟨z, _, zs', h2, rfl⟩ := h
    have := mgA_len h2
    simp; omega
theorem mgA_none_len : ∀ {xs ys : List (Option Char)}, xs.length ≠ ys.length → mgA xs ys = none := by
  intro xs ys h
  cases hm : mgA xs ys with
  | none => rfl
  | some z => exact absurd (mgA_len hm).1 h
end M
theorem fit_out (A : Option D) : ∀ (cs : List (List Pt)) (f : List (Option Char)) (a2 a3 a4 a5 : Option D), (∀ c ∈ cs, (uns c).length ≤ 100000) →
    match mgAll f cs with
    | some z => ∃ b2 b3 b4 b5, forF (tsN 2) b_all_fit_1 (cs.map encC) [A, some (.lst (f.map encA)), a2, a3, a4, a5] = .nx [A, some (.lst (z.map encA)), b2, b3, b4, b5]
    | none => forF (tsN 2) b_all_fit_1 (cs.map encC) [A, some (.lst (f.map encA)), a2, a3, a4, a5] = .rt .non
  | [], f, a2, a3, a4, a5, _ => ⟨a2, a3, a4, a5, rfl⟩
  | c :: cs, f, a2, a3, a4, a5, h => by
    have hc := h c (by simp)
    have e0 := f_asks_eq c hc
    rw [List.map_cons]
    simp only [forF_step, mgAll]
    by_cases hl : (asks (uns c)).length = f.length
    · have hin := fit_in A (some (encC c)) (some (.lst ((asks (uns c)).map encA))) (asks (uns c)) f [] a4 a5 hl.symm
      cases hm : mgA f (asks (uns c)) with
      | none =>
        rw [hm] at hin
        simp at hin
        simp [b_all_fit_1, e0, hl, hin]
      | some z =>
        rw [hm] at hin
        obtain ⟨b4, b5, hin⟩ := hin
        have e : sOf (tsN 2 (encC c) [A, some (.lst (f.map encA)), a2, a3, a4, a5]) b_all_fit_1 = .nx [A, some (.lst (z.map encA)), some (encC c), some (.lst ((asks (uns c)).map encA)), b4, b5] := by
          simp at hin
          simp [b_all_fit_1, e0, hl, hin]
        rw [e]
        simp only [Option.bind_some]
        exact fit_out A cs z _ _ _ _ fun d hd => h d (by simp [hd])
    · rw [mgA_none_len (fun q => hl q.symm)]
      have hl2 : ¬ (((asks (uns c)).length : Int) = f.length) := by omega
      simp [b_all_fit_1, e0, hl2]
theorem f_all_fit_eq (c : List Pt) (cs : List (List Pt)) (h : ∀ d ∈ c :: cs, (uns d).length ≤ 100000) : f_all_fit [.lst ((c :: cs).map encC)] = .ok (match mgAll (asks (uns c)) cs with | some z => .str (z.map fun x => x.getD 'a') | none => .non) := by
  have h2 : startE N_all_fit [.lst ((c :: cs).map encC)] = [some (.lst ((c :: cs).map encC)), none, none, none, none, none] := rfl
  have e0 := f_asks_eq c (h c (by simp))
  have c1 : cutL (encC c :: cs.map encC) (some 1) none = cs.map encC := cutL_drop (encC c :: cs.map encC) 1
  have ho := fit_out (some (.lst ((c :: cs).map encC))) cs (asks (uns c)) none none none none fun d hd => h d (by simp [hd])
  simp only [f_all_fit, s_all_fit, h2]
  cases hm : mgAll (asks (uns c)) cs with
  | none =>
    rw [hm] at ho
    simp at ho
    simp [e0, c1, ho]
  | some z =>
    rw [hm] at ho
    obtain ⟨b2, b3, b4, b5, ho⟩ := ho
    have lz : z.length ≤ 100000 := by
      have e : ∀ (cs : List (List Pt)) (f z : List (Option Char)), mgAll f cs = some z → z.length = f.length := by
        intro cs
        induction cs with
        | nil => intro f z h; cases h; rfl
        | cons d cs ih =>
          intro f z h
          simp only [mgAll, Option.bind_eq_some_iff] at h
          obtain ⟨g, h1, h2⟩ := h
          rw [ih g z h2, (mgA_len h1).2]
      rw [e cs _ z hm]
      have := asks_le (uns c)
      have := h c (by simp)
      omega
    have l1 : z.length ≤ line := by have := line_v; omega
    have hL : dIx (.str "abcdefghijklmnopqrstuvwxyz".toList) (.int 0) = .ok (.str ['a']) := by
      have := dIx_nat_str "abcdefghijklmnopqrstuvwxyz".toList 0 (by have := line_v; simp; omega)
      simpa using this
    simp at hL
    have hlc := lcF_map (tgt := tsN 5) (tst := tTrue) (elt := eIf (tCm dNe (eVar 5) (eStr "")) (eVar 5) (eOp dIx (eStr "abcdefghijklmnopqrstuvwxyz") (eInt 0))) (env := [some (.lst ((c :: cs).map encC)), some (.lst (z.map encA)), b2, b3, b4, none]) encA (fun x => .str [x.getD 'a']) z (fun x _ => by
      cases x <;> exact ⟨_, rfl, rfl, by simp [encA, hL]⟩)
    have hj := strsOf_map (fun x : Option Char => [x.getD 'a']) z
    simp at ho hlc
    simp [e0, c1, ho, l1]
    simp [hlc, dJoin, hj, Function.comp_def, joinC_nil]
    rw [sum1, if_pos l1, flat1]
    rfl
end G81

/-! Places of signs; what two ask. Plain Lean. -/
namespace G81.M
def orA : Option Char → Option Char → Option Char
  | some c, _ => some c
  | none, y => y
theorem PP.both {u v a b : List Un} (h : PP u v a b) : M.cA u (M.asks b) = List.zipWith orA (M.asks u) (M.asks v) := by
  induction h <;> simp_all [M.ask, M.cA, orA]
theorem Th.both {u v a b w : List Un} (h : PP u v a b) (T : Th u b w) : M.asks w = List.zipWith orA (M.asks u) (M.asks v) := by
  rw [T.asks, h.both]
theorem dropsU_len (u : List Un) : (dropsU u).length = bef u := rfl
theorem dropsU_at (u : List Un) : ∀ i : Nat, (asks u)[i]? = ((dropsU u)[i]?).map fun x => match x with | .d c => some c | _ => none := by
  induction u with
  | nil => intro i; rfl
  | cons x u ih =>
    intro i
    cases x with
    | p c => simpa [ask] using ih i
    | k => cases i with
      | zero => rfl
      | succ i => simpa [ask] using ih i
    | d c => cases i with
      | zero => rfl
      | succ i => simpa [ask] using ih i
/-- a kept sign stands where it is told -/
theorem plc_mk (u : List Un) : ∀ (s : Tx) (g i : Nat), Fit u s → (dropsU u)[i]? = some .k → (mk u s)[plc u g (g + i) true]? = s[i]? := by
  induction u with
  | nil => intro s g i h hi; simp at hi
  | cons x u ih =>
    intro s g i h hi
    cases x with
    | p c =>
      have := ih s g i h (by simpa using hi)
      have hc : g < g + i ∨ (g = g + i ∧ True) := by
        rcases Nat.eq_zero_or_pos i with z | z
        · right; exact ⟨by omega, trivial⟩
        · left; omega
      simp only [plc, mk]
      rw [if_pos hc, Nat.add_comm, List.getElem?_cons_succ]
      exact this
    | k => cases s with
      | nil => exact h.elim
      | cons c s => cases i with
        | zero =>
          have e : ∀ (u : List Un) (g p : Nat), p < g → plc u g p true = 0 := by
            intro u
            induction u with
            | nil => intro g p _; rfl
            | cons y u ih =>
              intro g p hp
              have h1 : ¬ g < p := by omega
              have h2 : ¬ (g < p ∨ (g = p ∧ True)) := by omega
              cases y with
              | p c => simp only [plc]; rw [if_neg h2, ih g p hp]
              | k => simp only [plc]; rw [if_neg h1, ih (g + 1) p (by omega)]
              | d c => simp only [plc]; exact ih (g + 1) p (by omega)
          simp only [plc, mk, Nat.add_zero]
          rw [if_neg (by omega), e u (g + 1) g (by omega)]
          rfl
        | succ i =>
          have := ih s (g + 1) i h (by simpa using hi)
          rw [show g + 1 + i = g + (i + 1) by omega] at this
          simp only [plc, mk]
          rw [if_pos (by omega), Nat.add_comm 1, List.getElem?_cons_succ, List.getElem?_cons_succ]
          exact this
    | d x => cases s with
      | nil => exact h.elim
      | cons c s => cases i with
        | zero => simp at hi
        | succ i =>
          have := ih s (g + 1) i h.2 (by simpa using hi)
          rw [show g + 1 + i = g + (i + 1) by omega] at this
          simp only [plc, mk, List.getElem?_cons_succ]
          exact this
theorem mgA_fit : ∀ {a b : List (Option Char)} {t : Tx}, FitA a t → FitA b t → ∃ z, mgA a b = some z ∧ z = List.zipWith orA a b ∧ FitA z t
  | [], [], [], _, _ => ⟨[], rfl, rfl, rfl⟩
  | none :: a, none :: b, c :: t, h, h' => by
    obtain ⟨z, h1, h2, h3⟩ := mgA_fit (a := a) (b := b) (t := t) h h'
    exact ⟨none :: z, by simp [mgA, mg1, h1], by simp [h2, orA], h3⟩
  | none :: a, some x :: b, c :: t, h, h' => by
    obtain ⟨z, h1, h2, h3⟩ := mgA_fit (a := a) (b := b) (t := t) h h'.2
    exact ⟨some x :: z, by simp [mgA, mg1, h1], by simp [h2, orA], ⟨h'.1, h3⟩⟩
  | some x :: a, none :: b, c :: t, h, h' => by
    obtain ⟨z, h1, h2, h3⟩ := mgA_fit (a := a) (b := b) (t := t) h.2 h'
    exact ⟨some x :: z, by simp [mgA, mg1, h1], by simp [h2, orA], ⟨h.1, h3⟩⟩
  | some x :: a, some y :: b, c :: t, h, h' => by
    obtain ⟨z, h1, h2, h3⟩ := mgA_fit (a := a) (b := b) (t := t) h.2 h'.2
    have : x = y := h.1.trans h'.1.symm
    exact ⟨some x :: z, by subst this; simp [mgA, mg1, h1], by simp [h2, orA], ⟨h.1, h3⟩⟩
  | none :: _, [], [], h, _ => h.elim
  | some _ :: _, [], [], h, _ => h.elim
  | [], none :: _, [], _, h' => h'.elim
  | [], some _ :: _, [], _, h' => h'.elim
  | none :: _, _ :: _, [], h, _ => h.elim
  | some _ :: _, _ :: _, [], h, _ => h.elim
  | [], _ :: _, _ :: _, h, _ => by cases h
  | _ :: _, [], _ :: _, _, h' => by cases h'
  | [], [], _ :: _, h, _ => by cases h
end G81.M

/-! What word_of, within answer. -/
namespace G81
namespace M
def subT (A : List (Option Char)) : Nat ⊕ Char → Nat ⊕ Char
  | .inl i => match A[i]? with
    | some (some c) => .inr c
    | some none => .inl i
    | none => .inl i
  | .inr c => .inr c
theorem told_lt (us : List Un) : ∀ (i j : Nat), Sum.inl j ∈ told i us → j < i + bef us := by
  induction us with
  | nil => intro i j h; cases h
  | cons u us ih =>
    intro i j h
    cases u with
    | p c =>
      simp [told] at h
      rw [bef_p]; exact ih i j h
    | k =>
      simp [told] at h
      rw [bef_k]
      rcases h with rfl | h
      · omega
      · have := ih (i + 1) j h; omega
    | d c =>
      simp [told] at h
      rw [bef_d]
      have := ih (i + 1) j h; omega
end M
open PySem M
theorem word_loop (A : Option D) : ∀ (us : List Un) (f : List (Nat ⊕ Char)) (p : Nat) (x y : Option D), f.length + us.length ≤ 200000 →
    ∃ p' x' y', forF (tsT [3, 4]) b_word_of_0 (us.map encU) [A, some (.lst (f.map encT)), some (.int p), x, y] = .nx [A, some (.lst ((f ++ told p us).map encT)), p', x', y']
  | [], f, p, x, y, _ => ⟨some (.int p), x, y, by simp [told]⟩
  | u :: us, f, p, x, y, h => by
    have lv := line_v
    simp at h
    have l1 : f.length < line := by omega
    rw [List.map_cons]
    simp only [forF_step]
    cases u with
    | p c =>
      have e : sOf (tsT [3, 4] (encU (.p c)) [A, some (.lst (f.map encT)), some (.int p), x, y]) b_word_of_0 = .nx [A, some (.lst ((f ++ [Sum.inr c]).map encT)), some (.int p), some (.str ['p','u','t']), some (.str [c])] := by
        simp [b_word_of_0, encU, l1, encT]
      rw [e]
      obtain ⟨p', x', y', q⟩ := word_loop A us (f ++ [Sum.inr c]) p (some (.str ['p','u','t'])) (some (.str [c])) (by simp; omega)
      exact ⟨p', x', y', by refine Eq.trans q ?_; simp [told]⟩
    | k =>
      have e : sOf (tsT [3, 4] (encU .k) [A, some (.lst (f.map encT)), some (.int p), x, y]) b_word_of_0 = .nx [A, some (.lst ((f ++ [Sum.inl p]).map encT)), some (.int (p + 1 : Nat)), some (.str ['k','e','e','p']), some (.str [])] := by
        simp [b_word_of_0, encU, l1, encT]
      rw [e]
      obtain ⟨p', x', y', q⟩ := word_loop A us (f ++ [Sum.inl p]) (p + 1) (some (.str ['k','e','e','p'])) (some (.str [])) (by simp; omega)
      exact ⟨p', x', y', by refine Eq.trans q ?_; simp [told]⟩
    | d c =>
      have e : sOf (tsT [3, 4] (encU (.d c)) [A, some (.lst (f.map encT)), some (.int p), x, y]) b_word_of_0 = .nx [A, some (.lst (f.map encT)), some (.int (p + 1 : Nat)), some (.str ['d','r','o','p']), some (.str [c])] := by
        simp [b_word_of_0, encU]
      rw [e]
      obtain ⟨p', x', y', q⟩ := word_loop A us f (p + 1) (some (.str ['d','r','o','p'])) (some (.str [c])) (by omega)
      exact ⟨p', x', y', by refine Eq.trans q ?_; simp [told]⟩
theorem f_word_eq (c : List Pt) (h : (uns c).length ≤ 100000) : f_word_of [encC c] = .ok (.lst ((told 0 (uns c)).map encT)) := by
  have h2 : startE N_word_of [encC c] = [some (encC c), none, none, none, none] := rfl
  obtain ⟨p', x', y', q⟩ := word_loop (some (encC c)) (uns c) [] 0 none none (by simp only [List.length_nil]; omega)
  simp only [f_word_of, s_word_of, h2]
  simp at q
  simp [f_units_of_eq c h, encUs, q]
namespace M
/-- a place at which the other one asks for what the one does not -/
def badP (A : List (Option Char)) (p : Option Char × Nat) : Bool := match p.1 with
  | none => false
  | some c => !decide (A[p.2]? = some (some c))
end M
theorem sub_eq (A : List (Option Char)) (hA : A.length ≤ 100000) (x : Nat ⊕ Char) (hx : ∀ i, x = .inl i → i < A.length) (e0 e1 e3 e4 e5 e6 : Option D) :
    (eIf (tAndF (tVal (eIsi Ty5.int (eVar 7))) (tCm dNe (eOp dIx (eVar 2) (eVar 7)) (eStr ""))) (eOp dIx (eVar 2) (eVar 7)) (eVar 7)) [e0, e1, some (.lst (A.map encA)), e3, e4, e5, e6, some (encT x)] = .ok (encT (subT A x)) := by
  cases x with
  | inr c => simp [encT, subT]
  | inl i =>
    have hi := hx i rfl
    have hd : dIx (.lst (A.map encA)) (.int i) = .ok (encA A[i]) := by
      rw [dIx_nat_lst, List.getElem?_map, List.getElem?_eq_getElem hi]; rfl
    simp only [subT, List.getElem?_eq_getElem hi]
    cases h : A[i] with
    | none => rw [h] at hd; simp [encT, encA] at hd ⊢; simp [hd]
    | some c => rw [h] at hd; simp [encT, encA] at hd ⊢; simp [hd]
theorem f_within_eq (a b : List Pt) (ha : (uns a).length ≤ 100000) (hb : (uns b).length ≤ 100000) :
    f_within [encC a, encC b] = .ok (.bl (decide (bef (uns a) = bef (uns b) ∧ (asks (uns b)).zipIdx.filter (badP (asks (uns a))) = [] ∧ (told 0 (uns b)).map (subT (asks (uns a))) = (told 0 (uns a)).map (subT (asks (uns a)))))) := by
  have h2 : startE N_within [encC a, encC b] = [some (encC a), some (encC b), none, none, none, none, none, none] := rfl
  have lv := line_v
  by_cases hbf : bef (uns a) = bef (uns b)
  · have lA : (asks (uns a)).length = bef (uns a) := asks_len _
    have lB : (asks (uns b)).length = bef (uns b) := asks_len _
    have hAl := asks_le (uns a)
    have hBl := asks_le (uns b)
    have tAl := told_le (uns a) 0
    have tBl := told_le (uns b) 0
    have ea := f_asks_eq a ha
    have eb := f_asks_eq b hb
    have wa := f_word_eq a ha
    have wb := f_word_eq b hb
    have tl1 := told_lt (uns a) 0
    have tl2 := told_lt (uns b) 0
    generalize asks (uns a) = A at *
    generalize asks (uns b) = B at *
    generalize told 0 (uns a) = S at *
    generalize told 0 (uns b) = T at *
    have lc1 := lcF_fm (tgt := tsT [5, 6]) (tst := tCm dNotIn (eVar 6) (eTup (aCons (eStr "") (aCons (eOp dIx (eVar 2) (eVar 5)) aNil)))) (elt := eVar 5) (env := [some (encC a), some (encC b), some (.lst (A.map encA)), none, none, none, none, none])
      (fun p : Option Char × Nat => D.tup [.int p.2, encA p.1]) (badP A) (fun p => D.int p.2) B.zipIdx (fun p hp => by
        obtain ⟨x, i⟩ := p
        have hi : i < A.length := by
          have := List.mem_zipIdx hp
          omega
        have hd : dIx (.lst (A.map encA)) (.int i) = .ok (encA A[i]) := by
          rw [dIx_nat_lst, List.getElem?_map, List.getElem?_eq_getElem hi]; rfl
        refine ⟨_, rfl, ?_, fun _ => by simp⟩
        simp only [badP, List.getElem?_eq_getElem hi]
        cases x with
        | none => cases h : A[i] <;> (rw [h] at hd; simp [encA] at hd ⊢; simp [hd, dNotIn, dIn, inL, flD])
        | some c => cases h : A[i] with
          | none => rw [h] at hd; simp [encA] at hd ⊢; simp [hd, dNotIn, dIn, inL, flD]
          | some d =>
            rw [h] at hd; simp [encA] at hd ⊢
            simp [hd, dNotIn, dIn, inL, flD])
    have lc2 : ∀ e3 : Option D, lcF (tsN 7) tTrue (eIf (tAndF (tVal (eIsi Ty5.int (eVar 7))) (tCm dNe (eOp dIx (eVar 2) (eVar 7)) (eStr ""))) (eOp dIx (eVar 2) (eVar 7)) (eVar 7)) [some (encC a), some (encC b), some (.lst (A.map encA)), e3, none, none, none, none] (T.map encT) = .ok ((T.map (subT A)).map encT) := fun e3 => by
      rw [lcF_map encT (fun x => encT (subT A x)) T (fun x hx => ⟨_, rfl, rfl, sub_eq A (by omega) x (fun i hi => by subst hi; have := tl2 i hx; omega) _ _ _ _ _ _⟩)]
      simp
    have lc3 : ∀ e3 : Option D, lcF (tsN 7) tTrue (eIf (tAndF (tVal (eIsi Ty5.int (eVar 7))) (tCm dNe (eOp dIx (eVar 2) (eVar 7)) (eStr ""))) (eOp dIx (eVar 2) (eVar 7)) (eVar 7)) [some (encC a), some (encC b), some (.lst (A.map encA)), e3, none, none, none, none] (S.map encT) = .ok ((S.map (subT A)).map encT) := fun e3 => by
      rw [lcF_map encT (fun x => encT (subT A x)) S (fun x hx => ⟨_, rfl, rfl, sub_eq A (by omega) x (fun i hi => by subst hi; have := tl1 i hx; omega) _ _ _ _ _ _⟩)]
      simp
    have hz := enD_zip B 0
    have q1 := (en_T.lst).dEq (by decide) (T.map (subT A)) (S.map (subT A))
    have lb1 : B.length ≤ line := by omega
    have lt1 : T.length ≤ line := by omega
    have ls1 : S.length ≤ line := by omega
    have zl : (enD 0 (B.map encA)).length ≤ line := by rw [hz]; simpa using lb1
    simp only [f_within, s_within, h2]
    simp only [List.map_map, Function.comp_def] at lc2 lc3 q1
    simp [f_before_eq a ha, f_before_eq b hb, hbf, ea, eb]
    simp [hz, lb1]
    rw [lc1]
    by_cases hbad : B.zipIdx.filter (badP A) = []
    · rw [hbad]
      simp [dNe_00, wa, wb, lt1, ls1, lc2, lc3, q1]
    · have q2 : dNe (.lst ((B.zipIdx.filter (badP A)).map fun p => D.int p.2)) (.lst []) = .ok true := by
        have := (en_nat.lst).dNe (by decide) ((B.zipIdx.filter (badP A)).map (·.2)) []
        simp only [List.map_map, Function.comp_def, List.map_nil] at this
        rw [this]
        simp only [List.map_eq_nil_iff, hbad, decide_false, Bool.not_false]
      simp [q2, hbad]
  · have hb2 : ¬ ((bef (uns a) : Int) = bef (uns b)) := by omega
    simp only [f_within, s_within, h2]
    simp [f_before_eq a ha, f_before_eq b hb, hb2, hbf]
end G81

/-! Texts that all fit. Plain Lean. -/
namespace G81.M
def txtA (z : List (Option Char)) : Tx := z.map fun x => x.getD 'a'
/-- what is asked together is just what all fit -/
theorem mgA_iff : ∀ {a b z : List (Option Char)}, mgA a b = some z → ∀ s, FitA z s ↔ FitA a s ∧ FitA b s
  | [], [], z, h, s => by cases h; exact ⟨fun q => ⟨q, q⟩, fun q => q.1⟩
  | [], _ :: _, _, h, _ => by cases h
  | _ :: _, [], _, h, _ => by cases h
  | x :: a, y :: b, z, h, s => by
    simp only [mgA, Option.bind_eq_some_iff, Option.map_eq_some_iff] at h
    obtain ⟨w, h1, zs, h2, rfl⟩ := h
    cases s with
    | nil => cases x <;> cases y <;> cases w <;> simp [FitA]
    | cons c s =>
      have ih := mgA_iff h2 s
      cases x with
      | none => cases y with
        | none => simp [mg1] at h1; subst h1; simpa [FitA] using ih
        | some e => simp [mg1] at h1; subst h1; simp [FitA, ih]; exact ⟨fun ⟨p, q, r⟩ => ⟨q, p, r⟩, fun ⟨q, p, r⟩ => ⟨p, q, r⟩⟩
      | some d => cases y with
        | none => simp [mg1] at h1; subst h1; simp [FitA, ih, and_assoc]
        | some e =>
          simp only [mg1] at h1
          split at h1
          · rename_i hde
            subst hde
            simp at h1
            subst h1
            simp [FitA, ih]
            exact ⟨fun ⟨p, q, r⟩ => ⟨⟨p, q⟩, p, r⟩, fun ⟨⟨p, q⟩, _, r⟩ => ⟨p, q, r⟩⟩
          · cases h1
theorem fitA_txt : ∀ z : List (Option Char), FitA z (txtA z)
  | [] => rfl
  | none :: z => fitA_txt z
  | some c :: z => ⟨rfl, fitA_txt z⟩
theorem fitA_len : ∀ {z : List (Option Char)} {s : Tx}, FitA z s → s.length = z.length
  | [], s, h => by have h : s = [] := h; subst h; rfl
  | none :: z, c :: s, h => by have := fitA_len (z := z) (s := s) h; simp [this]
  | some _ :: z, c :: s, h => by have := fitA_len (z := z) (s := s) h.2; simp [this]
  | none :: _, [], h => h.elim
  | some _ :: _, [], h => h.elim
theorem mgAll_iff {cs : List (List Pt)} : ∀ {f z : List (Option Char)}, mgAll f cs = some z → ∀ s, FitA z s ↔ FitA f s ∧ ∀ c ∈ cs, Fit (uns c) s := by
  induction cs with
  | nil => intro f z h s; cases h; simp
  | cons c cs ih =>
    intro f z h s
    simp only [mgAll, Option.bind_eq_some_iff] at h
    obtain ⟨g, h1, h2⟩ := h
    rw [ih h2 s, mgA_iff h1 s]
    simp [fit_iff, and_assoc]
theorem mgAll_ex {cs : List (List Pt)} : ∀ {f : List (Option Char)} {s : Tx}, FitA f s → (∀ c ∈ cs, Fit (uns c) s) → ∃ z, mgAll f cs = some z := by
  induction cs with
  | nil => intro f s h h'; exact ⟨f, rfl⟩
  | cons c cs ih =>
    intro f s h h'
    obtain ⟨z, h1, _, h3⟩ := mgA_fit h ((fit_iff _ _).mp (h' c (by simp)))
    obtain ⟨z', h4⟩ := ih h3 fun d hd => h' d (by simp [hd])
    exact ⟨z', by simp [mgAll, h1, h4]⟩
/-- a text that all fit -/
def aFit : List (List Pt) → Option Tx
  | [] => none
  | c :: cs => (mgAll (asks (uns c)) cs).map txtA
theorem aFit_fit {cs : List (List Pt)} {s : Tx} (h : aFit cs = some s) : ∀ c ∈ cs, Fit (uns c) s := by
  cases cs with
  | nil => cases h
  | cons c cs =>
    simp only [aFit, Option.map_eq_some_iff] at h
    obtain ⟨z, h1, rfl⟩ := h
    have := (mgAll_iff h1 (txtA z)).mp (fitA_txt z)
    intro d hd
    rcases List.mem_cons.mp hd with rfl | hd
    · exact (fit_iff _ _).mpr this.1
    · exact this.2 d hd
theorem aFit_iff {cs : List (List Pt)} (h0 : cs ≠ []) : (aFit cs).isSome = true ↔ ∃ s, ∀ c ∈ cs, Fit (uns c) s := by
  constructor
  · intro h
    obtain ⟨s, hs⟩ := Option.isSome_iff_exists.mp h
    exact ⟨s, aFit_fit hs⟩
  · rintro ⟨s, hs⟩
    cases cs with
    | nil => exact absurd rfl h0
    | cons c cs =>
      obtain ⟨z, hz⟩ := mgAll_ex (cs := cs) ((fit_iff _ _).mp (hs c (by simp))) fun d hd => hs d (by simp [hd])
      simp [aFit, hz]
theorem aFit_congr {cs ds : List (List Pt)} (h0 : cs ≠ []) (h1 : ds ≠ []) (h : ∀ s, (∀ c ∈ cs, Fit (uns c) s) ↔ ∀ c ∈ ds, Fit (uns c) s) : (aFit cs).isSome = (aFit ds).isSome := by
  rw [Bool.eq_iff_iff, aFit_iff h0, aFit_iff h1]
  exact ⟨fun ⟨s, q⟩ => ⟨s, (h s).mp q⟩, fun ⟨s, q⟩ => ⟨s, (h s).mpr q⟩⟩
end G81.M

/-! What is told behind another change; the sense of two. Plain Lean. -/
namespace G81.M
def lkT (L : List (Nat ⊕ Char)) : Nat ⊕ Char → Nat ⊕ Char
  | .inl i => L[i]?.getD (.inl 0)
  | .inr c => .inr c
theorem Th.told {a b r : List Un} (h : Th a b r) : ∀ (P : List (Nat ⊕ Char)) (j : Nat), M.told j r = (M.told P.length b).map (lkT (P ++ M.told j a)) := by
  induction h with
  | dd h ih => intro P j; exact ih P (j + 1)
  | pp h ih => intro P j; simp [M.told, lkT, ih P j]
  | nl => intro P j; simp [M.told]
  | kk h ih =>
    intro P j
    have := ih (P ++ [.inl j]) (j + 1)
    simp at this
    simp [M.told, lkT, this]
  | kd h ih =>
    intro P j
    have := ih (P ++ [.inl j]) (j + 1)
    simp at this
    simp [M.told, this]
  | pk h ih =>
    rename_i c _ _ _
    intro P j
    have := ih (P ++ [.inr c]) j
    simp at this
    simp [M.told, lkT, this]
  | pd h ih =>
    rename_i c _ _ _
    intro P j
    have := ih (P ++ [.inr c]) j
    simp at this
    simp [M.told, this]
theorem Th.told0 {a b r : List Un} (h : Th a b r) : M.told 0 r = (M.told 0 b).map (lkT (M.told 0 a)) := by
  simpa using h.told [] 0
/-- the law's own way: wants are put where what is kept stood -/
def dueA : List (Option Char) → List (Nat ⊕ Char) → List (Option Char) → Option (List (Option Char))
  | none :: ws, _ :: ts, A => dueA ws ts A
  | some c :: ws, .inl i :: ts, A => dueA ws ts (A.set i (some c))
  | some c :: ws, .inr x :: ts, A => if c = x then dueA ws ts A else none
  | _, _, A => some A
open Classical in
theorem dueA_eq (a : List Un) : ∀ (W P : List (Option Char)), W.length = aft a → dueA W (told P.length a) (P ++ asks a) = if Mt (asks (inv a)) W then some (P ++ cA a W) else none := by
  induction a with
  | nil =>
    intro W P h
    have : W = [] := by simpa using h
    subst this
    simp [dueA, told, cA, Mt]
  | cons u m ih =>
    intro W P h
    cases u with
    | k =>
      cases W with
      | nil => simp at h
      | cons w ws =>
        have hw : ws.length = aft m := by simpa using h
        cases w with
        | none =>
          have := ih ws (P ++ [none]) hw
          simp at this
          simp [dueA, told, ask, cA, Mt, this]
        | some c =>
          have := ih ws (P ++ [some c]) hw
          simp at this
          simp [dueA, told, ask, cA, Mt, this]
    | p x =>
      cases W with
      | nil => simp at h
      | cons w ws =>
        have hw : ws.length = aft m := by simpa using h
        have := ih ws P hw
        cases w with
        | none => simp [dueA, told, ask, cA, Mt, this]
        | some c =>
          by_cases e : c = x
          · subst e; simp [dueA, told, ask, cA, Mt, this]
          · have e2 : ¬ x = c := fun z => e z.symm
            simp [dueA, told, ask, cA, Mt, e, e2]
    | d x =>
      have := ih W (P ++ [some x]) (by simpa using h)
      simp at this
      simp [told, ask, cA, this]
open Classical in
theorem dueA_0 (a : List Un) (W : List (Option Char)) (h : W.length = aft a) : dueA W (told 0 a) (asks a) = if Mt (asks (inv a)) W then some (cA a W) else none := by
  simpa using dueA_eq a W [] h
theorem Mt.len : ∀ (a b : List (Option Char)), Mt a b → a.length = b.length
  | [], [], _ => rfl
  | none :: a, none :: b, h => by simpa using Mt.len a b h
  | none :: a, some _ :: b, h => by simpa using Mt.len a b h
  | some _ :: a, none :: b, h => by simpa using Mt.len a b h
  | some _ :: a, some _ :: b, h => by simpa using Mt.len a b h.2
  | [], none :: _, h => h.elim
  | [], some _ :: _, h => h.elim
  | none :: _, [], h => h.elim
  | some _ :: _, [], h => h.elim
end G81.M

/-! What fits what comes of two; dropped and put again. Plain Lean. -/
namespace G81.M
theorem Th.fit_iff {a b r : List Un} (h : Th a b r) : ∀ {t : Tx}, Fit r t ↔ Fit a t ∧ Fit b (mk a t) := by
  induction h with
  | dd h ih => intro t; cases t with
    | nil => simp [Fit]
    | cons x t => simp [Fit, mk, ih, and_assoc]
  | pp h ih => intro t; simp [Fit, ih]
  | nl => intro t; simp [Fit, mk]
  | kk h ih => intro t; cases t with
    | nil => simp [Fit]
    | cons x t => simp [Fit, mk, ih]
  | kd h ih => intro t; cases t with
    | nil => simp [Fit]
    | cons x t =>
      simp [Fit, mk, ih]
      constructor
      · rintro ⟨h1, h2, h3⟩; exact ⟨h2, h1, h3⟩
      · rintro ⟨h1, h2, h3⟩; exact ⟨h2, h1, h3⟩
  | pk h ih => intro t; simp [Fit, mk, ih]
  | pd h ih => intro t; simp [Fit, mk, ih]
theorem fit_hold {A : List (Option Char)} : ∀ {s : Tx}, Fit (hold A) s ↔ FitA A s := by
  intro s
  rw [M.fit_iff, asks_hold]
theorem mk_hold : ∀ {A : List (Option Char)} {s : Tx}, FitA A s → mk (hold A) s = s
  | [], s, h => by
    have : s = [] := h
    subst this; rfl
  | none :: A, s, h => by
    cases s with
    | nil => exact h.elim
    | cons x s => have := mk_hold (A := A) (s := s) h; simp [hold, mk, this]
  | some c :: A, s, h => by
    cases s with
    | nil => exact h.elim
    | cons x s =>
      obtain ⟨h1, h2⟩ := h
      have := mk_hold (A := A) (s := s) h2
      simp [hold, mk, this, h1]
/-- a change that drops and puts again: it fits just where c does, and changes nothing -/
structure Still (r : List Un) (P : Tx → Prop) : Prop where
  fit : ∀ s, Fit r s ↔ P s
  same : ∀ s, P s → M.mk r s = s
theorem still_of {a r : List Un} (h : Th a (M.inv a) r) {x : List Un} (e : nf x = nf r) : Still x (Fit a) := by
  have q := e.trans (still_nf h)
  have f : ∀ s, Fit x s ↔ Fit a s := fun s => by rw [fit_of_nf q, fit_hold, ← M.fit_iff]
  refine ⟨f, fun s hs => ?_⟩
  rw [mk_of_nf q ((f s).mpr hs)]
  exact mk_hold ((M.fit_iff _ _).mp hs)
theorem Still.thn {x y r : List Un} {P Q : Tx → Prop} (hx : Still x P) (hy : Still y Q) (h : Th x y r) {z : List Un} (e : nf z = nf r) : Still z fun s => P s ∧ Q s := by
  have f : ∀ s, Fit z s ↔ P s ∧ Q s := fun s => by
    rw [fit_of_nf e, h.fit_iff, hx.fit]
    constructor
    · rintro ⟨p, q⟩; rw [hx.same s p, hy.fit] at q; exact ⟨p, q⟩
    · rintro ⟨p, q⟩; rw [hx.same s p, hy.fit]; exact ⟨p, q⟩
  refine ⟨f, fun s hs => ?_⟩
  have hr : Fit r s := (fit_of_nf e).mp ((f s).mpr hs)
  have hxs := (hx.fit s).mpr hs.1
  have hys : Fit y (M.mk x s) := by rw [hx.same s hs.1]; exact (hy.fit s).mpr hs.2
  rw [mk_of_nf e ((f s).mpr hs), (h.fit hxs hys).2, hx.same s hs.1, hy.same s hs.2]
theorem still_kk (n : Nat) {x : List Un} (e : nf x = nf (List.replicate n .k)) : Still x fun s => s.length = n := by
  have f : ∀ s, Fit (List.replicate n Un.k) s ↔ s.length = n := by
    intro s
    constructor
    · intro h
      have q : bef (List.replicate n Un.k) = n := by
        rw [bef]; induction n with
        | zero => rfl
        | succ n ih => rw [List.replicate_succ, List.filter_cons]; simp [List.filter_replicate]
      rw [← h.len, q]
    · rintro rfl; exact (fit_k s).1
  refine ⟨fun s => (fit_of_nf e).trans (f s), fun s hs => ?_⟩
  subst hs
  rw [mk_of_nf e ((fit_of_nf e).mpr (fit_k s).1)]
  exact (fit_k s).2
theorem asks_drops (u : List Un) : asks (dropsU u) = asks u := by
  induction u with
  | nil => rfl
  | cons x u ih => cases x <;> simp [ask, ih]
theorem fit_drops (u : List Un) (s : Tx) : Fit (dropsU u) s ↔ Fit u s := by
  rw [M.fit_iff, M.fit_iff, asks_drops]
end G81.M

/-! clashing, merged. -/
namespace G81
namespace M
/-- the places at which both ask, for unlike signs -/
def clA : Nat → List (Option Char) → List (Option Char) → List Nat
  | i, some c :: A, some x :: B => if c = x then clA (i + 1) A B else i :: clA (i + 1) A B
  | i, none :: A, _ :: B => clA (i + 1) A B
  | i, some _ :: A, none :: B => clA (i + 1) A B
  | _, [], _ => []
  | _, _ :: _, [] => []
theorem clA_mt : ∀ (A B : List (Option Char)) (i : Nat), A.length = B.length → (clA i A B = [] ↔ Mt A B)
  | [], [], i, _ => by simp [clA, Mt]
  | none :: A, none :: B, i, h => by simpa [clA, Mt] using clA_mt A B (i + 1) (by simpa using h)
  | none :: A, some _ :: B, i, h => by simpa [clA, Mt] using clA_mt A B (i + 1) (by simpa using h)
  | some _ :: A, none :: B, i, h => by simpa [clA, Mt] using clA_mt A B (i + 1) (by simpa using h)
  | some c :: A, some x :: B, i, h => by
    have ih := clA_mt A B (i + 1) (by simpa using h)
    by_cases e : c = x <;> simp [clA, Mt, e, ih]
  | [], _ :: _, i, h => by simp at h
  | _ :: _, [], i, h => by simp at h
theorem clA_len : ∀ (A B : List (Option Char)) (i : Nat), (clA i A B).length ≤ A.length
  | [], B, i => by simp [clA]
  | _ :: A, [], i => by simp [clA]
  | none :: A, _ :: B, i => by have := clA_len A B (i + 1); simp [clA]; omega
  | some _ :: A, none :: B, i => by have := clA_len A B (i + 1); simp [clA]; omega
  | some c :: A, some x :: B, i => by
    have := clA_len A B (i + 1)
    by_cases e : c = x <;> simp [clA, e] <;> omega
end M
open PySem M
/-- no puts within -/
def noP (us : List Un) : Prop := ∀ u ∈ us, np u = true
theorem noP_drops (u : List Un) : noP (dropsU u) := fun x hx => (List.mem_filter.mp hx).2
theorem clash_loop (E0 E1 E2 E3 E7 : Option D) : ∀ (us vs : List Un) (i : Nat) (acc : List Nat) (x y : Option D), noP us → noP vs → acc.length + us.length ≤ 1000000 →
    ∃ x' y', forF (tsT [5, 6]) b_clashing_0 (enD i (zipD (us.map encU) (vs.map encU))) [E0, E1, E2, E3, some (.lst (acc.map fun j : Nat => D.int j)), x, y, E7] = .nx [E0, E1, E2, E3, some (.lst ((acc ++ clA i (asks us) (asks vs)).map fun j : Nat => D.int j)), x', y', E7]
  | [], vs, i, acc, x, y, _, _, _ => ⟨x, y, by simp [zipD, enD, forF, clA]⟩
  | u :: us, [], i, acc, x, y, _, _, _ => ⟨x, y, by
    have : clA i (asks (u :: us)) (asks []) = [] := by rw [asks_nil]; cases asks (u :: us) <;> simp [clA]
    simp [zipD, enD, forF, clA]; rw [← asks_cons, show clA i (asks (u :: us)) [] = [] from this]⟩
  | u :: us, v :: vs, i, acc, x, y, h1, h2, h3 => by
    have lv := line_v
    have hu := h1 u (by simp)
    have hv := h2 v (by simp)
    have h1' : noP us := fun z hz => h1 z (by simp [hz])
    have h2' : noP vs := fun z hz => h2 z (by simp [hz])
    simp only [List.length_cons] at h3
    have hl : acc.length < line := by omega
    simp only [List.map_cons, zipD, enD, forF_step]
    have go : ∀ (acc2 : List Nat), acc2.length ≤ acc.length + 1 → clA i (asks (u :: us)) (asks (v :: vs)) = (acc2.drop acc.length) ++ clA (i + 1) (asks us) (asks vs) → acc2.take acc.length = acc →
        sOf (tsT [5, 6] (.tup [.int i, .tup [encU u, encU v]]) [E0, E1, E2, E3, some (.lst (acc.map fun j : Nat => D.int j)), x, y, E7]) b_clashing_0 = .nx [E0, E1, E2, E3, some (.lst (acc2.map fun j : Nat => D.int j)), some (.int i), some (.tup [encU u, encU v]), E7] →
        ∃ x' y', (match sOf (tsT [5, 6] (.tup [.int i, .tup [encU u, encU v]]) [E0, E1, E2, E3, some (.lst (acc.map fun j : Nat => D.int j)), x, y, E7]) b_clashing_0 with
          | .nx e2 => forF (tsT [5, 6]) b_clashing_0 (enD (i + 1) (zipD (us.map encU) (vs.map encU))) e2
          | o => o) = .nx [E0, E1, E2, E3, some (.lst ((acc ++ clA i (asks (u :: us)) (asks (v :: vs))).map fun j : Nat => D.int j)), x', y', E7] := by
      intro acc2 ha hc ht he
      obtain ⟨x', y', q⟩ := clash_loop E0 E1 E2 E3 E7 us vs (i + 1) acc2 (some (.int i)) (some (.tup [encU u, encU v])) h1' h2' (by omega)
      refine ⟨x', y', ?_⟩
      rw [he]
      simp only []
      rw [q, hc]
      congr 7
      rw [← List.append_assoc]
      congr 1
      conv => lhs; rw [← List.take_append_drop acc.length acc2, ht]
    cases u with
    | p _ => simp at hu
    | k => exact go acc (by omega) (by cases v with
        | p _ => simp at hv
        | k => simp [M.ask, clA]
        | d _ => simp [M.ask, clA]) (by simp) (by cases v <;> simp [b_clashing_0, encU])
    | d c =>
      cases v with
      | p _ => simp at hv
      | k => exact go acc (by omega) (by simp [M.ask, clA]) (by simp) (by simp [b_clashing_0, encU])
      | d e =>
        by_cases hce : c = e
        · subst hce
          exact go acc (by omega) (by simp [M.ask, clA]) (by simp) (by simp [b_clashing_0, encU])
        · exact go (acc ++ [i]) (by simp) (by simp [M.ask, clA, hce]) (by simp) (by simp [b_clashing_0, encU, hce, hl])
theorem f_clashing_eq (a b : List Pt) (ha : (uns a).length ≤ 90000) (hb : (uns b).length ≤ 90000) :
    f_clashing [encC a, encC b] = if bef (uns a) = bef (uns b) then .ok (.lst ((clA 0 (asks (uns a)) (asks (uns b))).map fun j : Nat => D.int j)) else .err "NoFit" := by
  have h2 : startE N_clashing [encC a, encC b] = [some (encC a), some (encC b), none, none, none, none, none, none] := rfl
  have lv := line_v
  have l1 : (uns a).length ≤ line := by omega
  have l2 : (uns b).length ≤ line := by omega
  have e1 := f_units_of_eq a (by omega)
  have e2 := f_units_of_eq b (by omega)
  have lc : ∀ (c : List Pt) (e0 e1 e2 e3 : Option D), lcF (tsN 7) (tCm dNe (eOp dIx (eVar 7) (eInt 0)) (eStr "put")) (eVar 7) [e0, e1, e2, e3, none, none, none, none] ((uns c).map encU) = .ok ((dropsU (uns c)).map encU) := fun c e0 e1 e2 e3 =>
    lcF_fm encU np encU (uns c) (fun u _ => ⟨_, rfl, by cases u <;> simp [encU], fun _ => by cases u <;> simp [encU]⟩)
  have d1 : (dropsU (uns a)).length = bef (uns a) := dropsU_len _
  have d2 : (dropsU (uns b)).length = bef (uns b) := dropsU_len _
  have b1 : bef (uns a) ≤ (uns a).length := List.length_filter_le _ _
  have b2 : bef (uns b) ≤ (uns b).length := List.length_filter_le _ _
  have t1 : bef (uns a) ≤ line := by omega
  have t2 : bef (uns b) ≤ line := by omega
  have lca := lc a (some (encC a)) (some (encC b)) none none
  have lcb := lc b (some (encC a)) (some (encC b)) (some (.lst ((dropsU (uns a)).map encU))) none
  simp only [f_clashing, s_clashing, h2]
  by_cases h : bef (uns a) = bef (uns b)
  · obtain ⟨x', y', q⟩ := clash_loop (some (encC a)) (some (encC b)) (some (.lst ((dropsU (uns a)).map encU))) (some (.lst ((dropsU (uns b)).map encU))) none (dropsU (uns a)) (dropsU (uns b)) 0 [] none none (noP_drops _) (noP_drops _) (by simp; omega)
    rw [asks_drops, asks_drops] at q
    simp at q
    simp [e1, e2, encUs, l1, l2, lca, lcb, d1, d2, h, t1, t2]
    simp [q]
  · have h' : ¬ (bef (uns a) : Int) = bef (uns b) := by omega
    simp [e1, e2, encUs, l1, l2, lca, lcb, d1, d2, h, h', t1, t2]
/-- merged, where no one text is fit by neither -/
theorem f_merged_th {a b : List Pt} {x y w : List Un} (h : PP (nf (uns a)) (nf (uns b)) x y) (T : Th (uns a) (uns (ou y)) w) (ha : (uns a).length ≤ 20000) (hb : (uns b).length ≤ 20000) : f_merged [encC a, encC b] = .ok (encC (ou w)) := by
  have h2 : startE N_merged [encC a, encC b] = [some (encC a), some (encC b)] := rfl
  have e1 := f_past2 h (by omega) (by omega)
  have hl := h.len
  simp at hl
  have e2 := f_then_th T (by omega) (by rw [ou_len]; omega)
  simp only [f_merged, s_merged, h2]
  simp [e1, e2]
namespace M
theorem putsU_told (u : List Un) : ∀ i, (told i u).filterMap (fun t => match t with | .inr c => some c | .inl _ => none) = putsU u := by
  induction u with
  | nil => intro i; rfl
  | cons x u ih => intro i; cases x <;> simp [told, putsU, ih]
theorem putsU_nf (u : List Un) : putsU (nf u) = putsU u := by
  have h : told 0 (nf u) = told 0 u := congrArg Prod.snd (sense_nf u)
  rw [← putsU_told (nf u) 0, h, putsU_told]
/-- the texts put -/
def putTx : Pt → Option Tx
  | .put s => some s
  | _ => none
theorem putsU_app (a b : List Un) : putsU (a ++ b) = putsU a ++ putsU b := by
  induction a with
  | nil => rfl
  | cons x a ih => cases x <;> simp [putsU, ih]
theorem putTx_join (c : List Pt) : (c.filterMap putTx).flatten = putsU (uns c) := by
  have p1 : ∀ s : Tx, putsU (s.map .p) = s := fun s => by induction s <;> simp_all [putsU]
  have p2 : ∀ s : Tx, putsU (s.map .d) = [] := fun s => by induction s <;> simp_all [putsU]
  have p3 : ∀ n : Nat, putsU (List.replicate n .k) = [] := fun n => by induction n <;> simp_all [putsU, List.replicate_succ]
  induction c with
  | nil => rfl
  | cons p c ih => cases p <;> simp [putTx, putsU_app, unP, p1, p2, p3, ih, List.filterMap_cons]
end M
end G81

/-! Within, alike, texts that part. Plain Lean. -/
namespace G81.M
/-! ### texts by what is asked -/
def aTn (n : Nat) (A : List (Option Char)) (p : Int) (a : Bool) : Tx := (A.zipIdx n).map fun x => x.1.getD (if (x.2 : Int) = p ∧ a = true then 'b' else 'a')
def aTx (A : List (Option Char)) (p : Int) (a : Bool) : Tx := aTn 0 A p a
theorem aTn_fit (p : Int) (a : Bool) : ∀ (A : List (Option Char)) (n : Nat), FitA A (aTn n A p a)
  | [], n => rfl
  | none :: A, n => by simpa [aTn, FitA] using aTn_fit p a A (n + 1)
  | some c :: A, n => by simpa [aTn, FitA] using aTn_fit p a A (n + 1)
theorem aTx_fit (A : List (Option Char)) (p : Int) (a : Bool) : FitA A (aTx A p a) := aTn_fit p a A 0
@[simp] theorem aTx_len (A : List (Option Char)) (p : Int) (a : Bool) : (aTx A p a).length = A.length := by simp [aTx, aTn]
theorem aTx_at {A : List (Option Char)} {i : Nat} {x : Option Char} (h : A[i]? = some x) (p : Int) (a : Bool) : (aTx A p a)[i]? = some (x.getD (if (i : Int) = p ∧ a = true then 'b' else 'a')) := by
  simp [aTx, aTn, h]
theorem fitA_at : ∀ {B : List (Option Char)} {s : Tx} {i : Nat} {c : Char}, FitA B s → B[i]? = some (some c) → s[i]? = some c
  | [], _, _, _, _, h => by simp at h
  | b :: B, [], _, _, h, _ => by cases b <;> exact h.elim
  | none :: B, x :: s, 0, c, _, h => by simp at h
  | some d :: B, x :: s, 0, c, h, h' => by
    have h1 : d = c := by simpa using h'
    have h2 : x = d := h.1.symm
    simp [h2, h1]
  | none :: B, x :: s, i + 1, c, h, h' => by simpa using fitA_at (B := B) (s := s) (i := i) h (by simpa using h')
  | some d :: B, x :: s, i + 1, c, h, h' => by simpa using fitA_at (B := B) (s := s) (i := i) h.2 (by simpa using h')
open Classical in
/-- what a change makes of a text, if it fits -/
noncomputable def mkO (u : List Un) (s : Tx) : Option Tx := if Fit u s then some (made u s) else none
/-! ### kept places -/
def lefts (T : List (Nat ⊕ Char)) : List Nat := T.filterMap fun x => match x with | .inl i => some i | .inr _ => none
def nones : Nat → List (Option Char) → List Nat
  | _, [] => []
  | n, none :: A => n :: nones (n + 1) A
  | n, some _ :: A => nones (n + 1) A
theorem lefts_told (u : List Un) : ∀ n, lefts (told n u) = nones n (asks u) := by
  induction u with
  | nil => intro n; rfl
  | cons x u ih =>
    intro n
    have ih' := fun n => ih n
    simp only [lefts] at ih'
    cases x <;> simp [told, lefts, nones, ask, ih']
theorem told_none (u : List Un) : ∀ (n i : Nat), Sum.inl i ∈ told n u → n ≤ i ∧ (asks u)[i - n]? = some none := by
  induction u with
  | nil => intro n i h; simp [told] at h
  | cons x u ih =>
    intro n i h
    cases x with
    | k =>
      simp only [told, List.mem_cons] at h
      rcases h with h | h
      · cases h; simp [ask]
      · obtain ⟨h1, h2⟩ := ih (n + 1) i h
        refine ⟨by omega, ?_⟩
        have : i - n = (i - (n + 1)) + 1 := by omega
        rw [this]
        simpa [ask] using h2
    | p c =>
      simp only [told, List.mem_cons] at h
      rcases h with h | h
      · cases h
      · simpa [ask] using ih n i h
    | d c =>
      simp only [told] at h
      obtain ⟨h1, h2⟩ := ih (n + 1) i h
      refine ⟨by omega, ?_⟩
      have : i - n = (i - (n + 1)) + 1 := by omega
      rw [this]
      simpa [ask] using h2
theorem told_none0 {u : List Un} {i : Nat} (h : Sum.inl i ∈ told 0 u) : (asks u)[i]? = some none := by simpa using (told_none u 0 i h).2
/-! ### within -/
structure Wn (u v : List Un) : Prop where
  bf : bef u = bef v
  ak : ∀ (i : Nat) (c : Char), (asks v)[i]? = some (some c) → (asks u)[i]? = some (some c)
  tl : (told 0 v).map (subT (asks u)) = (told 0 u).map (subT (asks u))
theorem badP_iff (A B : List (Option Char)) : B.zipIdx.filter (badP A) = [] ↔ ∀ (i : Nat) (c : Char), B[i]? = some (some c) → A[i]? = some (some c) := by
  rw [List.filter_eq_nil_iff]
  constructor
  · intro h i c hb
    have := h (some c, i) (by rw [List.mem_zipIdx_iff_getElem?]; exact hb)
    simpa [badP] using this
  · rintro h ⟨x, i⟩ hx
    rw [List.mem_zipIdx_iff_getElem?] at hx
    cases x with
    | none => simp [badP]
    | some c => simp [badP, h i c hx]
theorem wn_iff (u v : List Un) : (bef u = bef v ∧ (asks v).zipIdx.filter (badP (asks u)) = [] ∧ (told 0 v).map (subT (asks u)) = (told 0 u).map (subT (asks u))) ↔ Wn u v := by
  rw [badP_iff]
  exact ⟨fun ⟨a, b, c⟩ => ⟨a, b, c⟩, fun ⟨a, b, c⟩ => ⟨a, b, c⟩⟩
theorem sub_none {A : List (Option Char)} {i : Nat} (h : A[i]? = some none) : subT A (.inl i) = .inl i := by simp [subT, h]
theorem sub_some {A : List (Option Char)} {i : Nat} {c : Char} (h : A[i]? = some (some c)) : subT A (.inl i) = .inr c := by simp [subT, h]
theorem sub_told (u : List Un) : (told 0 u).map (subT (asks u)) = told 0 u := by
  conv => rhs; rw [← List.map_id (told 0 u)]
  refine List.map_congr_left fun x hx => ?_
  cases x with
  | inr c => rfl
  | inl i => exact sub_none (told_none0 hx)
theorem Wn.refl (u : List Un) : Wn u u := ⟨rfl, fun _ _ h => h, rfl⟩
theorem sub_sub {A B : List (Option Char)} (h : ∀ (i : Nat) (c : Char), B[i]? = some (some c) → A[i]? = some (some c)) (x : Nat ⊕ Char) : subT A (subT B x) = subT A x := by
  cases x with
  | inr c => rfl
  | inl i =>
    cases hb : B[i]? with
    | none => simp [subT, hb]
    | some y =>
      cases y with
      | none => rw [sub_none hb]
      | some c => rw [sub_some hb, sub_some (h i c hb)]; rfl
theorem Wn.trans {u v w : List Un} (h : Wn u v) (h' : Wn v w) : Wn u w := by
  refine ⟨h.bf.trans h'.bf, fun i c q => h.ak i c (h'.ak i c q), ?_⟩
  have := congrArg (List.map (subT (asks u))) h'.tl
  simp only [List.map_map] at this
  have e : (subT (asks u) ∘ subT (asks v)) = subT (asks u) := funext fun x => sub_sub h.ak x
  rw [e] at this
  exact this.trans h.tl
theorem asks_same {A B : List (Option Char)} (hl : A.length = B.length) (h : ∀ (i : Nat) (c : Char), B[i]? = some (some c) → A[i]? = some (some c)) (h' : ∀ (i : Nat) (c : Char), A[i]? = some (some c) → B[i]? = some (some c)) : A = B := by
  refine List.ext_getElem hl fun i h1 h2 => ?_
  cases ha : A[i] with
  | none =>
    cases hb : B[i] with
    | none => rfl
    | some c =>
      have := h i c (by rw [List.getElem?_eq_getElem h2, hb])
      rw [List.getElem?_eq_getElem h1, ha] at this
      simp at this
  | some c =>
    have := h' i c (by rw [List.getElem?_eq_getElem h1, ha])
    rw [List.getElem?_eq_getElem h2] at this
    simpa using this.symm
theorem Wn.both {u v : List Un} (h : Wn u v) (h' : Wn v u) : nf u = nf v := by
  have ha : asks u = asks v := asks_same (by rw [asks_len, asks_len, h.bf]) h.ak h'.ak
  have ht := h.tl
  rw [sub_told, ha, sub_told] at ht
  exact nf_of_sense (by rw [sense, sense, ha, ht])
theorem Wn.of_nf {u v : List Un} (h : nf u = nf v) : Wn u v := by
  have hs := sense_iff.mp h
  have ha : asks u = asks v := congrArg Prod.fst hs
  have ht : told 0 u = told 0 v := congrArg Prod.snd hs
  exact ⟨bef_of_nf h, fun i c q => by rw [ha]; exact q, by rw [ht]⟩
theorem wn_both {u v : List Un} : nf u = nf v ↔ Wn u v ∧ Wn v u := ⟨fun h => ⟨.of_nf h, .of_nf h.symm⟩, fun h => h.1.both h.2⟩
theorem Wn.congr {u v u' v' : List Un} (h : Wn u v) (e : nf u' = nf u) (e' : nf v' = nf v) : Wn u' v' := ((Wn.of_nf e).trans h).trans (.of_nf e'.symm)
/-- what drops and puts again, ahead of a change, is within it -/
theorem wn_hold {A : List (Option Char)} {c r : List Un} (h : Th (hold A) c r) : Wn r c := by
  have hb : bef r = A.length := by rw [h.bef, ← asks_len, asks_hold]
  have hm : bef c = A.length := by rw [← h.mid, ← asksI_len, asksI_hold]
  have hA : M.asks r = cA (hold A) (M.asks c) := h.asks
  have key : ∀ (A B : List (Option Char)) (i : Nat), A.length = B.length → (cA (hold A) B)[i]? = match A[i]?, B[i]? with | some none, b => b | some (some x), some _ => some (some x) | _, _ => none := by
    intro A
    induction A with
    | nil => intro B i hl; simp [hold, cA]
    | cons a A ih =>
      intro B i hl
      cases B with
      | nil => simp at hl
      | cons b B =>
        cases a with
        | none => cases i with
          | zero => simp [hold, cA]
          | succ i => simpa [hold, cA] using ih B i (by simpa using hl)
        | some x => cases i with
          | zero => simp [hold, cA]
          | succ i => simpa [hold, cA] using ih B i (by simpa using hl)
  have hAl : A.length = (M.asks c).length := by rw [asks_len, hm]
  have mt : Mt A (M.asks c) := by have := h.mt; rwa [asksI_hold] at this
  have mtat : ∀ (A B : List (Option Char)) (i : Nat) (x y : Char), Mt A B → A[i]? = some (some x) → B[i]? = some (some y) → x = y := by
    intro A
    induction A with
    | nil => intro B i x y _ h; simp at h
    | cons a A ih =>
      intro B i x y hm h1 h2
      cases B with
      | nil => simp at h2
      | cons b B =>
        cases i with
        | zero =>
          simp at h1 h2; subst h1 h2
          exact hm.1
        | succ i =>
          refine ih B i x y ?_ (by simpa using h1) (by simpa using h2)
          cases a <;> cases b <;> first | exact hm | exact hm.2
  refine ⟨by rw [hb, hm], fun i c' q => ?_, ?_⟩
  · rw [hA, key A _ i hAl]
    cases ha : A[i]? with
    | none =>
      have : A.length ≤ i := List.getElem?_eq_none_iff.mp ha
      rw [List.getElem?_eq_none (by omega)] at q
      cases q
    | some a =>
      cases a with
      | none => simpa using q
      | some x => rw [mtat A _ i x c' mt ha q, q]
  · have ht := h.told0
    have hs : M.told 0 (hold A) = A.zipIdx.map pkT := by rw [told_hold]
    rw [ht, hs, List.map_map]
    refine List.map_congr_left fun x hx => ?_
    cases x with
    | inr c => rfl
    | inl i =>
      have hi : i < A.length := by have := told_lt _ _ _ hx; omega
      have hz : (A.zipIdx.map pkT)[i]? = some (pkT (A[i], i)) := by simp [List.getElem?_eq_getElem hi]
      simp only [Function.comp, lkT, hz, Option.getD_some]
      cases ha : A[i] with
      | none => rfl
      | some x =>
        have hci : i < (M.asks c).length := by omega
        have : (M.asks r)[i]? = some (some x) := by
          rw [hA, key A _ i hAl, List.getElem?_eq_getElem hi, ha, List.getElem?_eq_getElem hci]
        rw [sub_some this]; rfl
/-! ### texts that part -/
def isAT : Nat ⊕ Char → Bool
  | .inl _ => false
  | .inr c => c == 'a'
def pickT (A : List (Option Char)) : Nat ⊕ Char → Nat ⊕ Char → Tx
  | .inl i, y => aTx A i (isAT y)
  | .inr c, .inl j => aTx A j (c == 'a')
  | .inr c, .inr _ => aTx A (-1) (c == 'a')
theorem ne_ab (c : Char) : (if (c == 'a') = true then 'b' else 'a') ≠ c := by
  by_cases h : c = 'a'
  · subst h; decide
  · have : (c == 'a') = false := by simpa using h
    simp [this]; exact fun z => h z.symm
theorem pick_parts {u v : List Un} (hA : asks u = asks v) {P R R' : List (Nat ⊕ Char)} {x y : Nat ⊕ Char} (hu : told 0 u = P ++ x :: R) (hv : told 0 v = P ++ y :: R') (hne : x ≠ y) : mkO u (pickT (asks u) x y) ≠ mkO v (pickT (asks u) x y) := by
  have fitu : ∀ p a, Fit u (aTx (asks u) p a) := fun p a => (fit_iff _ _).mpr (aTx_fit _ _ _)
  have fitv : ∀ p a, Fit v (aTx (asks u) p a) := fun p a => (fit_iff _ _).mpr (by rw [hA]; exact aTx_fit _ _ _)
  have diff : ∀ s : Tx, Fit u s → Fit v s → look s x ≠ look s y → mkO u s ≠ mkO v s := by
    intro s h1 h2 h3 h4
    rw [mkO, mkO, if_pos h1, if_pos h2] at h4
    have h5 : (told 0 u).map (look s) = (told 0 v).map (look s) := Option.some.inj h4
    rw [hu, hv, List.map_append, List.map_append] at h5
    have h6 := List.append_cancel_left h5
    simp only [List.map_cons, List.cons.injEq] at h6
    exact h3 h6.1
  cases x with
  | inl i =>
    have hi : (asks u)[i]? = some none := told_none0 (by rw [hu]; simp)
    cases y with
    | inl j =>
      exfalso
      have h1 := lefts_told u 0
      have h2 := lefts_told v 0
      rw [← hA, ← h1, hu, hv] at h2
      simp [lefts] at h2
      exact hne (by rw [h2.1])
    | inr c =>
      refine diff _ (fitu _ _) (fitv _ _) ?_
      simp only [pickT, look, isAT, aTx_at hi, Option.getD_some, Option.getD_none, true_and]
      exact ne_ab c
  | inr c =>
    cases y with
    | inl j =>
      have hj : (asks u)[j]? = some none := by rw [hA]; exact told_none0 (by rw [hv]; simp)
      refine diff _ (fitu _ _) (fitv _ _) ?_
      simp only [pickT, look, aTx_at hj, Option.getD_some, Option.getD_none, true_and]
      exact fun z => ne_ab c z.symm
    | inr d => exact diff _ (fitu _ _) (fitv _ _) (by simp only [look]; intro z; exact hne (by rw [z]))
theorem len_parts {u v : List Un} (hl : (told 0 u).length ≠ (told 0 v).length) (s : Tx) (hu : Fit u s) : mkO u s ≠ mkO v s := by
  intro h
  rw [mkO, if_pos hu] at h
  unfold mkO at h
  split at h
  · have := congrArg List.length (Option.some.inj h)
    simp [made] at this
    exact hl this
  · cases h
theorem ask_parts1 {u v : List Un} (hl : bef u = bef v) {i : Nat} {c : Char} (h : (asks v)[i]? = some (some c)) (h' : (asks u)[i]? ≠ some (some c)) : mkO u (aTx (asks u) i (c == 'a')) ≠ mkO v (aTx (asks u) i (c == 'a')) := by
  have fu : Fit u (aTx (asks u) i (c == 'a')) := (fit_iff _ _).mpr (aTx_fit _ _ _)
  have nv : ¬ Fit v (aTx (asks u) i (c == 'a')) := by
    intro z
    have q := fitA_at ((fit_iff _ _).mp z) h
    have hi : i < (asks u).length := by
      have := (List.getElem?_eq_some_iff.mp h).1
      rw [asks_len] at this ⊢; omega
    rw [aTx_at (List.getElem?_eq_getElem hi)] at q
    cases hx : (asks u)[i] with
    | none =>
      rw [hx] at q
      simp only [Option.getD_none, true_and, Option.some.injEq] at q
      exact ne_ab c q
    | some d =>
      rw [hx] at q
      simp only [Option.getD_some, Option.some.injEq] at q
      exact h' (by rw [List.getElem?_eq_getElem hi, hx, q])
  rw [mkO, mkO, if_pos fu, if_neg nv]
  simp
end G81.M

/-! alike, within, parting. -/
namespace G81
open PySem M
theorem form_iff {a b : List Pt} : form a = form b ↔ nf (uns a) = nf (uns b) := ou_eq
theorem f_alike_eq (a b : List Pt) (ha : (uns a).length ≤ 100000) (hb : (uns b).length ≤ 100000) : f_alike [encC a, encC b] = .ok (.bl (decide (form a = form b))) := by
  have h2 : startE N_alike [encC a, encC b] = [some (encC a), some (encC b)] := rfl
  simp only [f_alike, s_alike, h2]
  simp [f_form_eq a ha, f_form_eq b hb]
open Classical in
theorem f_within_wn (a b : List Pt) (ha : (uns a).length ≤ 100000) (hb : (uns b).length ≤ 100000) : f_within [encC a, encC b] = .ok (.bl (decide (Wn (uns a) (uns b)))) := by
  rw [f_within_eq a b ha hb]
  congr 2
  exact decide_eq_decide.mpr (wn_iff _ _)
theorem a_loop (E0 : Option D) (p : Int) (S : D) (a : Bool) (hS : dEq S (.str ['a']) = .ok a) : ∀ (A : List (Option Char)) (n : Nat) (f : Tx) (x y z : Option D), f.length + A.length ≤ 200000 →
    ∃ x' y' z', forF (tsT [4, 5]) b_a_text_0 (enD n (A.map encA)) [E0, some (.int p), some S, some (.str f), x, y, z] = .nx [E0, some (.int p), some S, some (.str (f ++ aTn n A p a)), x', y', z']
  | [], n, f, x, y, z, _ => ⟨x, y, z, by simp [enD, forF, aTn]⟩
  | c :: A, n, f, x, y, z, h => by
    have lv := line_v
    simp only [List.length_cons] at h
    have l1 : f.length + 1 ≤ line := by omega
    have key : ∃ w, sOf (tsT [4, 5] (.tup [.int n, encA c]) [E0, some (.int p), some S, some (.str f), x, y, z]) b_a_text_0 = .nx [E0, some (.int p), some S, some (.str (f ++ [c.getD (if (n : Int) = p ∧ a = true then 'b' else 'a')])), some (.int n), some (encA c), w] := by
      cases c with
      | some d =>
        by_cases hp : (n : Int) = p
        · subst hp; cases a <;> exact ⟨_, by simp [b_a_text_0, encA, hS, l1]; rfl⟩
        · exact ⟨_, by simp [b_a_text_0, encA, hp, l1]; rfl⟩
      | none =>
        by_cases hp : (n : Int) = p
        · subst hp; cases a <;> exact ⟨_, by simp [b_a_text_0, encA, hS, l1]; rfl⟩
        · exact ⟨_, by simp [b_a_text_0, encA, hp, l1]; rfl⟩
    obtain ⟨w, key⟩ := key
    obtain ⟨x', y', z', q⟩ := a_loop E0 p S a hS A (n + 1) (f ++ [c.getD (if (n : Int) = p ∧ a = true then 'b' else 'a')]) (some (.int n)) (some (encA c)) w (by simp; omega)
    refine ⟨x', y', z', ?_⟩
    simp only [List.map_cons, enD, forF_step, key]
    rw [q]
    simp [aTn, List.zipIdx_cons]
theorem f_a_text_eq (A : List (Option Char)) (hA : A.length ≤ 100000) (p : Int) (S : D) (a : Bool) (hS : dEq S (.str ['a']) = .ok a) : f_a_text [.lst (A.map encA), .int p, S] = .ok (.str (aTx A p a)) := by
  have h2 : startE N_a_text [.lst (A.map encA), .int p, S] = [some (.lst (A.map encA)), some (.int p), some S, none, none, none, none] := rfl
  obtain ⟨x', y', z', q⟩ := a_loop (some (.lst (A.map encA))) p S a hS A 0 [] none none none (by simp; omega)
  simp only [f_a_text, s_a_text, h2]
  simp at q
  simp [q, aTx]
theorem dEq_isA (y : Nat ⊕ Char) : dEq (encT y) (.str ['a']) = .ok (isAT y) := by
  cases y with
  | inl i => rw [encT, dEq_sh (by rw [shD_iff]; simp) (by rw [shD_iff]; simp)]; simp [isAT]
  | inr c => simp [encT, isAT]; rw [Bool.eq_iff_iff]; simp
theorem pt_loop (E0 E1 : Option D) (A : List (Option Char)) (hA : A.length ≤ 100000) : ∀ (T1 T2 : List (Nat ⊕ Char)) (x y : Option D),
    (∃ x' y', forF (tsT [3, 4]) b_parting_told_0 (zipD (T1.map encT) (T2.map encT)) [E0, E1, some (.lst (A.map encA)), x, y] = .nx [E0, E1, some (.lst (A.map encA)), x', y'] ∧ (T1 = T2 ∨ T1.length ≠ T2.length)) ∨
    (∃ P x1 y1 R R', T1 = P ++ x1 :: R ∧ T2 = P ++ y1 :: R' ∧ x1 ≠ y1 ∧ forF (tsT [3, 4]) b_parting_told_0 (zipD (T1.map encT) (T2.map encT)) [E0, E1, some (.lst (A.map encA)), x, y] = .rt (.str (pickT A x1 y1)))
  | [], [], x, y => .inl ⟨x, y, by simp [zipD, forF]⟩
  | [], _ :: _, x, y => .inl ⟨x, y, by simp [zipD, forF]⟩
  | _ :: _, [], x, y => .inl ⟨x, y, by simp [zipD, forF]⟩
  | x1 :: T1, y1 :: T2, x, y => by
    simp only [List.map_cons, zipD, forF_step]
    by_cases h : x1 = y1
    · subst h
      have hd : dNe (encT x1) (encT x1) = .ok false := by have := en_T.dNe (by decide) x1 x1; simpa using this
      have e : sOf (tsT [3, 4] (.tup [encT x1, encT x1]) [E0, E1, some (.lst (A.map encA)), x, y]) b_parting_told_0 = .nx [E0, E1, some (.lst (A.map encA)), some (encT x1), some (encT x1)] := by
        simp [b_parting_told_0, hd]
      rw [e]
      rcases pt_loop E0 E1 A hA T1 T2 (some (encT x1)) (some (encT x1)) with ⟨x', y', q, r⟩ | ⟨P, x2, y2, R, R', h1, h2, h3, h4⟩
      · exact .inl ⟨x', y', q, by rcases r with r | r; exact .inl (by rw [r]); exact .inr (by simpa using r)⟩
      · exact .inr ⟨x1 :: P, x2, y2, R, R', by rw [h1]; rfl, by rw [h2]; rfl, h3, h4⟩
    · have hd : dNe (encT x1) (encT y1) = .ok true := by have := en_T.dNe (by decide) x1 y1; simpa [h] using this
      refine .inr ⟨[], x1, y1, T1, T2, rfl, rfl, h, ?_⟩
      cases x1 with
      | inl i =>
        have q := f_a_text_eq A hA i (encT y1) _ (dEq_isA y1)
        simp [encT] at hd q
        simp [b_parting_told_0, encT, hd, q, pickT]
      | inr c =>
        cases y1 with
        | inl j =>
          have q := f_a_text_eq A hA j (encT (.inr c)) _ (dEq_isA (.inr c))
          simp [encT, isAT] at hd q
          simp [b_parting_told_0, encT, hd, q, pickT]
        | inr d =>
          have q := f_a_text_eq A hA (-1) (encT (.inr c)) _ (dEq_isA (.inr c))
          simp [encT, isAT] at hd q
          simp [b_parting_told_0, encT, hd, q, pickT]
theorem isAT_inr (c : Char) : dEq (.str [c]) (.str ['a']) = .ok (c == 'a') := dEq_isA (.inr c)
theorem zd_A : ∀ (c d : Option Char), dNe (encA c) (encA d) = .ok (!decide (c = d)) := fun c d => en_A.dNe (by decide) c d
theorem pg_loop (E0 E1 : Option D) (MA MB : List (Option Char)) (hA : MA.length ≤ 100000) (hB : MB.length ≤ 100000) : ∀ (A B : List (Option Char)) (n : Nat) (x y : Option D), A.length = B.length →
    (∃ x' y', forF (tsT [4, 5]) b_parting_0 (enD n (zipD (A.map encA) (B.map encA))) [E0, E1, some (.lst (MA.map encA)), some (.lst (MB.map encA)), x, y] = .nx [E0, E1, some (.lst (MA.map encA)), some (.lst (MB.map encA)), x', y'] ∧ A = B) ∨
    (∃ j c s, forF (tsT [4, 5]) b_parting_0 (enD n (zipD (A.map encA) (B.map encA))) [E0, E1, some (.lst (MA.map encA)), some (.lst (MB.map encA)), x, y] = .rt (.str s) ∧
      ((B[j]? = some (some c) ∧ A[j]? ≠ some (some c) ∧ s = aTx MA (n + j : Nat) (c == 'a')) ∨ (A[j]? = some (some c) ∧ B[j]? ≠ some (some c) ∧ s = aTx MB (n + j : Nat) (c == 'a'))))
  | [], [], n, x, y, _ => .inl ⟨x, y, by simp [zipD, enD, forF]⟩
  | [], _ :: _, _, _, _, h => by simp at h
  | _ :: _, [], _, _, _, h => by simp at h
  | a :: A, b :: B, n, x, y, h => by
    have h' : A.length = B.length := by simpa using h
    simp only [List.map_cons, zipD, enD, forF_step]
    by_cases hab : a = b
    · subst hab
      have hd := zd_A a a
      have e : sOf (tsT [4, 5] (.tup [.int n, .tup [encA a, encA a]]) [E0, E1, some (.lst (MA.map encA)), some (.lst (MB.map encA)), x, y]) b_parting_0 = .nx [E0, E1, some (.lst (MA.map encA)), some (.lst (MB.map encA)), some (.int n), some (.tup [encA a, encA a])] := by
        simp [b_parting_0, hd]
      rw [e]
      rcases pg_loop E0 E1 MA MB hA hB A B (n + 1) (some (.int n)) (some (.tup [encA a, encA a])) h' with ⟨x', y', q, r⟩ | ⟨j, c, s, q, r⟩
      · exact .inl ⟨x', y', q, by rw [r]⟩
      · refine .inr ⟨j + 1, c, s, q, ?_⟩
        have : n + 1 + j = n + (j + 1) := by omega
        rw [this] at r
        simpa using r
    · have hd := zd_A a b
      rw [decide_eq_false hab] at hd
      cases b with
      | some c =>
        have q := f_a_text_eq MA hA n (.str [c]) _ (isAT_inr c)
        have h0 : dNe (encA (some c)) (.str []) = .ok true := by simp [encA]
        refine .inr ⟨0, c, aTx MA n (c == 'a'), ?_, .inl ⟨by simp, by simpa using hab, by simp⟩⟩
        simp only [encA] at q hd h0 ⊢
        cases a <;> (simp at hd; simp [b_parting_0, hd, q])
      | none =>
        cases a with
        | none => exact absurd rfl hab
        | some d =>
          have q := f_a_text_eq MB hB n (.str [d]) _ (isAT_inr d)
          refine .inr ⟨0, d, aTx MB n (d == 'a'), ?_, .inr ⟨by simp, by simp, by simp⟩⟩
          simp only [encA] at q hd ⊢
          simp at hd
          simp [b_parting_0, hd, q]
/-- a text that parts two, None where they are alike -/
theorem f_parting_ok (a b : List Pt) (ha : (uns a).length ≤ 90000) (hb : (uns b).length ≤ 90000) :
    (form a = form b ∧ f_parting [encC a, encC b] = .ok .non) ∨ (form a ≠ form b ∧ ∃ s : Tx, f_parting [encC a, encC b] = .ok (.str s) ∧ s.length ≤ 90000 ∧ mkO (uns a) s ≠ mkO (uns b) s ∧ (s.length = bef (uns a) ∨ s.length = bef (uns b))) := by
  have h2 : startE N_parting [encC a, encC b] = [some (encC a), some (encC b), none, none, none, none] := rfl
  have lv := line_v
  have e0 := f_alike_eq a b (by omega) (by omega)
  by_cases hf : form a = form b
  · refine .inl ⟨hf, ?_⟩
    rw [decide_eq_true hf] at e0
    simp only [f_parting, s_parting, h2]
    simp [e0]
  · refine .inr ⟨hf, ?_⟩
    rw [decide_eq_false hf] at e0
    have e1 := f_asks_eq a (by omega)
    have e2 := f_asks_eq b (by omega)
    have l1 := asks_le (uns a)
    have l2 := asks_le (uns b)
    have la : (asks (uns a)).length = bef (uns a) := asks_len _
    have lb : (asks (uns b)).length = bef (uns b) := asks_len _
    have t1 : (asks (uns a)).length ≤ line := by omega
    have t2 : (asks (uns b)).length ≤ line := by omega
    simp only [f_parting, s_parting, h2]
    by_cases hl : (asks (uns a)).length = (asks (uns b)).length
    · rcases pg_loop (some (encC a)) (some (encC b)) (asks (uns a)) (asks (uns b)) (by omega) (by omega) (asks (uns a)) (asks (uns b)) 0 none none hl with ⟨x', y', q, hA⟩ | ⟨j, c, s, q, hj⟩
      · -- asks are the same
        have w1 := f_word_eq a (by omega)
        have w2 := f_word_eq b (by omega)
        have tl1 := told_le (uns a) 0
        have tl2 := told_le (uns b) 0
        have hz : (zipD ((told 0 (uns a)).map encT) ((told 0 (uns b)).map encT)).length ≤ line := by rw [zipD_len]; simp; omega
        have h3 : startE N_parting_told [encC a, encC b] = [some (encC a), some (encC b), none, none, none] := rfl
        have zl : (enD 0 (zipD ((asks (uns a)).map encA) ((asks (uns b)).map encA))).length ≤ line := by rw [enD_len, zipD_len]; simp; omega
        have fin : ∀ s, f_parting_told [encC a, encC b] = .ok (.str s) → s.length = bef (uns a) → mkO (uns a) s ≠ mkO (uns b) s → ∃ s : Tx, toR false (sSeq (sIf (tVal (eCall f_alike (aCons (eVar 0) (aCons (eVar 1) aNil)))) (sSeq (sRet eNon) sNil) sNil) (sSeq (sSet 2 (eCall f_asks_of (aCons (eVar 0) aNil))) (sSeq (sSet 3 (eCall f_asks_of (aCons (eVar 1) aNil)))
            (sSeq (sIf (tCm dNe (eCall dLen (aCons (eVar 2) aNil)) (eCall dLen (aCons (eVar 3) aNil))) (sSeq (sRet (eCall f_a_text (aCons (eVar 2) (aCons (eNeg (eInt 1)) (aCons (eStr "") aNil))))) sNil) sNil)
            (sSeq (sFor (iEz (aCons (eVar 2) (aCons (eVar 3) aNil))) (tsT [4, 5]) b_parting_0) (sSeq (sRet (eCall f_parting_told (aCons (eVar 0) (aCons (eVar 1) aNil)))) sNil))))) [some (encC a), some (encC b), none, none, none, none]) = .ok (.str s) ∧ s.length ≤ 90000 ∧ mkO (uns a) s ≠ mkO (uns b) s ∧ (s.length = bef (uns a) ∨ s.length = bef (uns b)) := by
          intro s hs hsl hne
          refine ⟨s, ?_, by omega, hne, .inl hsl⟩
          have t2' := t2
          rw [← hl] at t2'
          simp [e0, e1, e2, t1, t2', ← hl, q, hs]
        have e5 := f_a_text_eq (asks (uns a)) (by omega) (-1) (.str []) false (by simp)
        rcases pt_loop (some (encC a)) (some (encC b)) (asks (uns a)) (by omega) (told 0 (uns a)) (told 0 (uns b)) none none with ⟨x2, y2, q2, hT⟩ | ⟨P, x1, y1, R, R', g1, g2, g3, q2⟩
        · have hT : (told 0 (uns a)).length ≠ (told 0 (uns b)).length := by
            rcases hT with hT | hT
            · exact absurd (form_iff.mpr (nf_of_sense (by rw [sense, sense, hA, hT]))) hf
            · exact hT
          refine fin (aTx (asks (uns a)) (-1) false) ?_ (by simp [la]) (len_parts hT _ ((fit_iff _ _).mpr (aTx_fit _ _ _)))
          simp only [f_parting_told, s_parting_told, h3]
          try simp at q2 e5
          simp [e1, w1, w2, hz, q2, e5]
        · refine fin (pickT (asks (uns a)) x1 y1) ?_ ?_ (pick_parts hA g1 g2 g3)
          · simp only [f_parting_told, s_parting_told, h3]
            try simp at q2
            simp [e1, w1, w2, hz, q2]
          · cases x1 <;> cases y1 <;> simp [pickT, la]
      · have zl : (enD 0 (zipD ((asks (uns a)).map encA) ((asks (uns b)).map encA))).length ≤ line := by rw [enD_len, zipD_len]; simp; omega
        have t2' := t2
        rw [← hl] at t2'
        refine ⟨s, ?_, ?_, ?_, ?_⟩
        · simp [e0, e1, e2, t1, t2', ← hl, q]
        · rcases hj with ⟨_, _, rfl⟩ | ⟨_, _, rfl⟩ <;> simp <;> omega
        · rcases hj with ⟨h1, h3, rfl⟩ | ⟨h1, h3, rfl⟩
          · have := ask_parts1 (u := uns a) (v := uns b) (by omega) h1 h3
            simpa using this
          · have := ask_parts1 (u := uns b) (v := uns a) (by omega) h1 h3
            simpa using this.symm
        · rcases hj with ⟨_, _, rfl⟩ | ⟨_, _, rfl⟩
          · exact .inl (by simp [la])
          · exact .inr (by simp [lb])
    · have hl' : ¬ ((asks (uns a)).length : Int) = (asks (uns b)).length := by omega
      have e5 := f_a_text_eq (asks (uns a)) (by omega) (-1) (.str []) false (by simp)
      refine ⟨aTx (asks (uns a)) (-1) false, ?_, by simp; omega, ?_, .inl (by simp [la])⟩
      · try simp at e5
        simp [e0, e1, e2, t1, t2, hl, hl', e5]
      · have fu : Fit (uns a) (aTx (asks (uns a)) (-1) false) := (fit_iff _ _).mpr (aTx_fit _ _ _)
        have nv : ¬ Fit (uns b) (aTx (asks (uns a)) (-1) false) := fun z => by have := z.len; simp at this; omega
        rw [mkO, mkO, if_pos fu, if_neg nv]
        simp
end G81

/-! What drops and puts again, ahead of a change; rows that all fit. -/
namespace G81
open PySem M
theorem still_eq (c : List Pt) (hc : (uns c).length ≤ 1000) : ∃ w : List Pt, f_then [encC c, encC (undone c)] = .ok (encC w) ∧ (uns w).length ≤ 2 * (uns c).length ∧ Still (uns w) (Fit (uns c)) ∧ nf (uns w) = nf (hold (asks (uns c))) := by
  obtain ⟨r, hr⟩ := Th.self_inv (uns c)
  obtain ⟨r', h', n'⟩ := hr.ex' (a' := uns c) (b' := uns (undone c)) rfl (nf_undone c)
  have e1 := f_then_th h' (by omega) (by rw [undone, ou_len]; simp; omega)
  have hl := h'.len
  rw [undone, ou_len, inv_len] at hl
  exact ⟨ou r', e1, by rw [ou_len]; omega, still_of hr (by rw [nf_uns_ou, n']), by rw [nf_uns_ou, n']; exact still_nf hr⟩
/-- a change behind what is dropped and put again -/
theorem narrow_eq {c w d : List Pt} {t : Tx} (hw : (uns w).length ≤ 2000) (hd : (uns d).length ≤ 1000) (hs : Still (uns w) (Fit (uns c))) (hn : nf (uns w) = nf (hold (asks (uns c)))) (fc : Fit (uns c) t) (fd : Fit (uns d) t) :
    ∃ r : List Pt, f_then [encC w, encC d] = .ok (encC r) ∧ (uns r).length ≤ (uns w).length + (uns d).length ∧ Wn (uns r) (uns d) ∧ Fit (uns r) t := by
  have h1 := (hs.fit t).mpr fc
  have h2 := hs.same t fc
  obtain ⟨r, _, T⟩ := Th.of_fit (a := uns w) (b := uns d) h1 (by rw [h2]; exact fd)
  obtain ⟨r0, T0, n0⟩ := T.ex' (a' := hold (asks (uns c))) (b' := uns d) hn.symm rfl
  refine ⟨ou r, f_then_th T (by omega) (by omega), by rw [ou_len]; exact T.len, (wn_hold T0).congr (by rw [nf_uns_ou, n0]) rfl, ?_⟩
  rw [uns_ou, fit_nf]
  exact (T.fit h1 (by rw [h2]; exact fd)).1
def toD (x : Option Tx) : D := match x with
  | some s => .str s
  | none => .non
@[simp] theorem isN_toD (x : Option Tx) : isN (toD x) = x.isNone := by cases x <;> rfl
theorem all_fit_eq (cs : List (List Pt)) (h0 : cs ≠ []) (h : ∀ d ∈ cs, (uns d).length ≤ 1000) : f_all_fit [.lst (cs.map encC)] = .ok (toD (aFit cs)) := by
  cases cs with
  | nil => exact absurd rfl h0
  | cons c cs =>
    rw [f_all_fit_eq c cs (fun d hd => by have := h d hd; omega)]
    simp only [aFit]
    cases mgAll (asks (uns c)) cs <;> rfl
theorem aFit_some {cs : List (List Pt)} (h0 : cs ≠ []) {t : Tx} (h : ∀ c ∈ cs, Fit (uns c) t) : ∃ s, aFit cs = some s ∧ s.length = t.length ∧ ∀ c ∈ cs, Fit (uns c) s := by
  obtain ⟨s, hs⟩ := Option.isSome_iff_exists.mp ((aFit_iff h0).mpr ⟨t, h⟩)
  obtain ⟨c, hc⟩ := List.exists_mem_of_ne_nil cs h0
  exact ⟨s, hs, by rw [← (aFit_fit hs c hc).len, (h c hc).len], aFit_fit hs⟩
end G81

/-! Small facts for all laws. -/
namespace G81
open PySem M
@[simp] theorem dIsN_non (d : D) : dIsN d .non = .ok (isN d) := rfl
@[simp] theorem dNotN_non (d : D) : dNotN d .non = .ok (!isN d) := rfl
@[simp] theorem isN_non : isN .non = true := rfl
@[simp] theorem isN_str (s : Tx) : isN (.str s) = false := rfl
@[simp] theorem isN_int (s : Int) : isN (.int s) = false := rfl
@[simp] theorem isN_bl (s : Bool) : isN (.bl s) = false := rfl
@[simp] theorem isN_tup (s : List D) : isN (.tup s) = false := rfl
@[simp] theorem isN_lst (s : List D) : isN (.lst s) = false := rfl
@[simp] theorem isN_C (s : List Pt) : isN (encC s) = false := rfl
@[simp high] theorem dIt_C (c : List Pt) : dIt (encC c) = .ok (c.map encP) := rfl
end G81

/-! The law's own defs as functions of data. -/
namespace G81.W94
open PySem
noncomputable section
def b_law_0 : Ev → Out :=
  (sSeq (sSet 2 (eSl (eVar 2) oNone (oSome (eNeg (eInt 1)))))
  sNil)
def k_law_1 : Ev → Out :=
  (sSeq (sIf (tCm dNe (eVar 7) (eCall f_rows_text (aCons (eLc [9, 10] (iSeq (eVar 4)) (tsT [9, 10]) tTrue (eVar 10)) aNil))) (sSeq (sRet (eBl false))
  sNil) sNil)
  sNil)
def k_law_2 : Ev → Out :=
  (sSeq (sSet 7 (eMs dJoin (eStr "") (eLc [11] (iSeq (eSl (eMs dSplit (eVar 5) (eStr "\n")) oNone (oSome (eNeg (eInt 1))))) (tsN 11) tTrue (eOp dAdd (eSl (eVar 11) (oSome (eOp dAdd (eMs (fun s d => dIndexT (.str s) d) (eVar 11) (eStr ": ")) (eInt 2))) oNone) (eStr "\n")))))
  k_law_1)
def k_law_3 : Ev → Out :=
  (sSeq (sIf (tCm dNe (eOp dAdd (eCall f_owned_text (aCons (eSl (eVar 4) oNone (oSome (eVar 6))) aNil)) (eCall f_owned_text (aCons (eSl (eVar 4) (oSome (eVar 6)) oNone) aNil))) (eVar 5)) (sSeq (sRet (eBl false))
  sNil) sNil)
  k_law_2)
def k_law_4 : Ev → Out :=
  (sSeq (sSet 6 (eCall f__law_drawn (aCons (eVar 0) (aCons (eInt 10) (aCons (eOp dAdd (eCall dLen (aCons (eVar 4) aNil)) (eInt 1)) aNil)))))
  k_law_3)
def k_law_5 : Ev → Out :=
  (sSeq (sIf (tOrF (tCm dNe (eCall f_read_owned (aCons (eVar 5) aNil)) (eVar 4)) (tCm dNe (eCall dLen (aCons (eMs dSplit (eVar 5) (eStr "\n")) aNil)) (eOp dAdd (eCall dLen (aCons (eVar 4) aNil)) (eInt 1)))) (sSeq (sRet (eBl false))
  sNil) sNil)
  k_law_4)
def b_law_6 : Ev → Out :=
  (sSeq (sSet 5 (eCall f_owned_text (aCons (eVar 4) aNil)))
  k_law_5)
def k_law_7 : Ev → Out :=
  (sSeq (sRet (eCm dEq (eCall f_owners (aCons (eVar 1) (aCons (eCall f_read_owned (aCons (eCall f_owned_text (aCons (eVar 2) aNil)) aNil)) aNil))) (eCall f_owners (aCons (eVar 1) (aCons (eVar 2) aNil)))))
  sNil)
def k_law_8 : Ev → Out :=
  (sSeq (sIf (tCm dNe (eCm dEq (eCall f_owned_text (aCons (eVar 2) aNil)) (eCall f_owned_text (aCons (eVar 3) aNil))) (eCm dEq (eVar 2) (eVar 3))) (sSeq (sRet (eBl false))
  sNil) sNil)
  k_law_7)
def k_law_9 : Ev → Out :=
  (sSeq (sFor (iSeq (eTup (aCons (eVar 2) (aCons (eVar 3) (aCons (eOp dAdd (eVar 2) (eVar 3)) (aCons (eRevL (eVar 2)) aNil)))))) (tsN 4) b_law_6)
  k_law_8)
def k_law_10 : Ev → Out :=
  (sSeq (sSet 3 (eLc [8] (iSeq (eCall f_squeezed (aCons (eVar 2) aNil))) (tsN 8) (tVal (eCall f_is_change (aCons (eOp dIx (eVar 8) (eInt 1)) aNil))) (eVar 8)))
  k_law_9)
def k_law_11 : Ev → Out :=
  (sSeq (sWh (tCm dNe (eLc [9, 10] (iSeq (eVar 2)) (tsT [9, 10]) (tNotF (tVal (eCall f_is_change (aCons (eVar 10) aNil)))) (eVar 10)) (eLst aNil)) b_law_0)
  k_law_10)
def k_law_12 : Ev → Out :=
  (sSeq (sSet 2 (eLc [8] (iSeq (eCall f__law_rows (aCons (eVar 0) (aCons (eInt 20) (aCons (eVar 1) (aCons (eInt 4) aNil)))))) (tsN 8) tTrue (eVar 8)))
  k_law_11)
def N_law : List Str := ["_law_script", "_law_text_here", "_law_rows_here", "_law_few", "_law_some", "_law_written", "_law_at", "_law_bare", "_law_row", "_law_own", "_law_change_here", "_law_line"]
def s_law : Ev → Out :=
  (sSeq (sSet 1 (eCall f__law_text (aCons (eVar 0) (aCons (eInt 0) (aCons (eInt 4) aNil)))))
  k_law_12)
def f_law (ds : List D) : R D := toR false (s_law (startE N_law ds))

end
end G81.W94

/-! Rows of owned changes, as the laws draw them. -/
namespace G81
open PySem M
/-- the signs of the laws' texts -/
def CH : Tx := ['a', 'b', 'c', 'z', ' ']
/-- the parts of a drawn change, the text's length -/
def okP (n : Nat) : Pt → Prop
  | .keep k => 1 ≤ k ∧ k ≤ n + 1
  | .put s => s ≠ [] ∧ s.length ≤ 2 ∧ ∀ c ∈ s, c ∈ CH
  | .drop s => s ≠ [] ∧ s.length ≤ 2 ∧ ∀ c ∈ s, c ∈ CH
theorem smP_ok {t u : Tx} {p : Pt} (h : smP u p) (hu : ∀ x ∈ u, x ∈ t) (ht : ∀ x ∈ t, x ∈ CH) : okP t.length p := by
  cases p with
  | keep n => have h : n = 1 := h; subst h; exact ⟨by decide, by omega⟩
  | put s => exact ⟨h.1, h.2.1, fun c hc => by have := h.2.2 c hc; simp [CH] at this ⊢; rcases this with q | q | q <;> simp [q]⟩
  | drop s => obtain ⟨c, hc, rfl⟩ := h; exact ⟨by simp, by simp, fun d hd => by simp at hd; subst hd; exact ht _ (hu _ hc)⟩
theorem f_small_ok (ns : List Int) (hn : ns.length ≤ 63) (a : Int) (t : Tx) (ht : t.length ≤ 500) : ∃ c, f__law_small [.scr ns, .int a, .str t] = .ok (encC c) ∧ Fit (uns c) t ∧ (uns c).length ≤ t.length + 20 ∧ c.length ≤ 30 ∧ ((∀ x ∈ t, x ∈ CH) → ∀ p ∈ c, okP t.length p) := by
  have h0 : startE N__law_small [.scr ns, .int a, .str t] = [some (.scr ns), some (.int a), some (.str t), none, none, none] := rfl
  have lv := line_v
  have tl : t.length ≤ line := by omega
  have d1 := f_drawn_eq ns hn (a + 60) 5 (by decide)
  by_cases h5 : dr ns (a + 60) 5 = 0
  · by_cases h1 : t = []
    · subst h1
      refine ⟨[], ?_, rfl, by simp, by simp, by simp⟩
      simp only [f__law_small, s__law_small, h0]
      simp [d1, h5, encC]
    · refine ⟨[.keep t.length], ?_, ?_, by simp [unP], by simp, fun _ p hp => by
        have : 1 ≤ t.length := by cases t with
          | nil => exact absurd rfl h1
          | cons x r => simp
        simp at hp; subst hp; exact ⟨this, by omega⟩⟩
      · simp only [f__law_small, s__law_small, h0]
        simp [d1, h5, h1, tl, encC, encP]
      · have := (fit_k t).1
        simpa [unP] using this
  · by_cases h7 : t.length < 7
    · obtain ⟨c, hc, hd⟩ := f_change_ok ns hn a t (by omega)
      refine ⟨c, ?_, hd.fit, by have := hd.sz; omega, by have := hd.len; omega, fun hch p hp => smP_ok (hd.sm p hp) (fun x hx => hx) hch⟩
      have h7' : (t.length : Int) < 7 := by omega
      simp only [f__law_small, s__law_small, h0]
      simp [d1, h5, tl, h7, h7', hc]
    · have hp := dr_lt ns (a + 61) ((t.length : Int) - 3) (by omega)
      have d2 := f_drawn_eq ns hn (a + 61) ((t.length : Int) - 3) (by omega)
      generalize dr ns (a + 61) ((t.length : Int) - 3) = p at *
      have hm : ((t.drop p).take 3).length = 3 := by simp; omega
      obtain ⟨c, hc, hd⟩ := f_change_ok ns hn a ((t.drop p).take 3) (by omega)
      have hs := hd.sz
      have hl := hd.len
      rw [hm] at hs hl
      have h7' : ¬ (t.length : Int) < 7 := by omega
      have cm : cutL t (some (p : Int)) (some ((p : Int) + 3)) = (t.drop p).take 3 := by
        have := cutL_mid t p (p + 3)
        rw [show p + 3 - p = 3 by omega] at this
        exact this
      have r1 : (t.length : Int) - p - 3 = ((t.length - p - 3 : Nat) : Int) := by omega
      have ft : Fit (List.replicate p Un.k ++ (uns c ++ List.replicate (t.length - p - 3) Un.k)) t := by
        have e : t = t.take p ++ ((t.drop p).take 3 ++ (t.drop p).drop 3) := by rw [List.take_append_drop, List.take_append_drop]
        have k1 := (fit_k (t.take p)).1
        have k2 := (fit_k ((t.drop p).drop 3)).1
        rw [List.length_take, Nat.min_eq_left (by omega)] at k1
        rw [List.length_drop, List.length_drop] at k2
        have := k1.app (hd.fit.app k2)
        rwa [← e] at this
      have cl : c.length ≤ line := by omega
      have cl1 : c.length + 1 ≤ line := by omega
      have cl2 : c.length + 2 ≤ line := by omega
      have cl3 : 1 + c.length ≤ line := by omega
      have cl4 : c.length + 1 + 1 ≤ line := by omega
      have cl5 : 1 + c.length + 1 ≤ line := by omega
      simp only [encC] at hc
      have hsm : (∀ x ∈ t, x ∈ CH) → ∀ q ∈ c, okP t.length q := fun hch q hq => smP_ok (hd.sm q hq) (fun x hx => List.mem_of_mem_drop (List.mem_of_mem_take hx)) hch
      by_cases hp0 : p = 0
      · subst hp0
        by_cases hr : 0 < t.length - 0 - 3
        · refine ⟨c ++ [.keep (t.length - 0 - 3)], ?_, ?_, by simp [unP]; omega, by simp; omega, fun hch q hq => by
            rcases List.mem_append.mp hq with hq | hq
            · exact hsm hch q hq
            · simp only [List.mem_singleton] at hq; subst hq; exact ⟨by omega, by omega⟩⟩
          · simp only [f__law_small, s__law_small, h0]
            have hr' : (3 : Int) < t.length := by omega
            have e3 : ((t.length - 3 : Nat) : Int) = (t.length : Int) - 3 := by omega
            simp at cm hc
            simp [d1, h5, tl, h7, h7', d2, cm, hc, hr', encC, encP, cl, cl1, e3]
          · simpa [unP] using ft
        · omega
      · have hp0' : 0 < (p : Int) := by omega
        have hp0'' : 0 < p := by omega
        by_cases hr : 0 < t.length - p - 3
        · refine ⟨[.keep p] ++ c ++ [.keep (t.length - p - 3)], ?_, ?_, by simp [unP]; omega, by simp; omega, fun hch q hq => by
            rcases List.mem_append.mp hq with hq | hq
            · rcases List.mem_append.mp hq with hq | hq
              · simp only [List.mem_singleton] at hq; subst hq; exact ⟨by omega, by omega⟩
              · exact hsm hch q hq
            · simp only [List.mem_singleton] at hq; subst hq; exact ⟨by omega, by omega⟩⟩
          · simp only [f__law_small, s__law_small, h0]
            have hr' : (3 : Int) < (t.length : Int) - p := by omega
            have e3 : ((t.length - p - 3 : Nat) : Int) = (t.length : Int) - p - 3 := by omega
            simp [d1, h5, tl, h7, h7', d2, cm, hc, hr', encC, encP, cl, cl1, cl2, cl3, cl4, cl5, e3, hp0', hp0'', hr']
          · simpa [unP] using ft
        · refine ⟨[.keep p] ++ c, ?_, ?_, by simp [unP]; omega, by simp; omega, fun hch q hq => by
            rcases List.mem_append.mp hq with hq | hq
            · simp only [List.mem_singleton] at hq; subst hq; exact ⟨by omega, by omega⟩
            · exact hsm hch q hq⟩
          · simp only [f__law_small, s__law_small, h0]
            have hr' : ¬ (3 : Int) < (t.length : Int) - p := by omega
            simp [d1, h5, tl, h7, h7', d2, cm, hc, hr', encC, encP, cl, cl1, cl2, cl3, cl4, cl5, hp0', hp0'', hr']
          · rw [show t.length - p - 3 = 0 by omega] at ft
            simpa [unP] using ft
abbrev Ow := Tx × List Pt
def encO (r : Ow) : D := .tup [.str r.1, encC r.2]
theorem en_O : En encO 3 := en_str.pair en_C
def ownT (i : Nat) : Tx := [['a','n','n'], ['b','o'], ['a','n','n'], ['c']][i]?.getD []
theorem ownT_at (i : Nat) (h : i < 4) : dIx (.lst [D.str ['a','n','n'], .str ['b','o'], .str ['a','n','n'], .str ['c']]) (.int i) = .ok (.str (ownT i)) := by
  match i, h with
  | 0, _ => rfl
  | 1, _ => rfl
  | 2, _ => rfl
  | 3, _ => rfl
structure DrwO (t : Tx) (rs : List Ow) (m : Tx) (i : Nat) : Prop where
  row : Row t (rs.map (·.2)) m
  len : rs.length = i
  tl : m.length ≤ t.length + 20 * i
  each : ∀ r ∈ rs, (uns r.2).length ≤ t.length + 20 * i ∧ r.2.length ≤ 30
  own : ∀ r ∈ rs, ∃ j, j < 4 ∧ r.1 = ownT j
  ch : (∀ x ∈ t, x ∈ CH) → (∀ x ∈ m, x ∈ CH) ∧ ∀ r ∈ rs, ∀ p ∈ r.2, okP (t.length + 20 * i) p
theorem okP_mono {n m : Nat} (h : n ≤ m) : ∀ {p : Pt}, okP n p → okP m p
  | .keep k, q => ⟨q.1, by have := q.2; omega⟩
  | .put _, q => q
  | .drop _, q => q
theorem ok_mk {n : Nat} {c : List Pt} {t : Tx} (h : ∀ p ∈ c, okP n p) (ht : ∀ x ∈ t, x ∈ CH) : ∀ x ∈ mk (uns c) t, x ∈ CH := fun x hx => by
  rcases mk_mem _ hx with z | z
  · exact ht x z
  · obtain ⟨s, z1, z2⟩ := uns_p_mem c z
    exact (h _ z1).2.2 _ z2
theorem f_rows_ok (ns : List Int) (h : ns.length ≤ 63) (a : Int) (t : Tx) (mo : Nat) (ht : t.length ≤ 10) (hm : mo ≤ 6) : ∃ rs m, f__law_rows [.scr ns, .int a, .str t, .int mo] = .ok (.lst (rs.map encO)) ∧ DrwO t rs m rs.length ∧ rs.length ≤ mo := by
  have h0 : startE N__law_rows [.scr ns, .int a, .str t, .int mo] = [some (.scr ns), some (.int a), some (.str t), some (.int mo), none, none, none, none] := rfl
  have lv := line_v
  have hd := dr_lt ns a ((mo : Int) + 1) (by omega)
  have hd0 := f_drawn_eq ns h a ((mo : Int) + 1) (by omega)
  generalize dr ns a ((mo : Int) + 1) = d at *
  have hb : big62 (d : Int) := big_ok _ (by omega)
  obtain ⟨e', h1, rs, m, x5, x6, x7, rfl, s⟩ := forF_all (tgt := tsN 5) (fb := b__law_rows_0) (fun i : Nat => D.int i) (List.range d) (fun pre e => ∃ rs m x5 x6 x7, e = [some (.scr ns), some (.int a), some (.str m), some (.int mo), some (.lst (rs.map encO)), x5, x6, x7] ∧ DrwO t rs m pre.length) [some (.scr ns), some (.int a), some (.str t), some (.int mo), some (.lst (([] : List Ow).map encO)), none, none, none] ⟨[], t, none, none, none, rfl, rfl, rfl, by simp, by simp, by simp, fun hc => ⟨hc, by simp⟩⟩ (by
    rintro pre i post e hr ⟨rs, m, x5, x6, x7, rfl, s⟩
    obtain ⟨rfl, hi⟩ := range_split hr
    have hml := s.tl
    obtain ⟨c, hc, hf, hz, hl, hch⟩ := f_small_ok ns h (a + 2 + 70 * pre.length) m (by omega)
    have hmd := f_made_eq c m (by omega) (by omega)
    rw [if_pos hf, made_mk _ _ hf] at hmd
    have s70 : smallF 70 := smallC _ (by decide)
    have l1 : rs.length < line := by have := s.len; omega
    have l4 : 4 ≤ line := by omega
    have o1 := dr_lt ns (a + 1 + 70 * pre.length) 4 (by decide)
    have o2 := f_drawn_eq ns h (a + 1 + 70 * pre.length) 4 (by decide)
    generalize dr ns (a + 1 + 70 * pre.length) 4 = j at *
    have o3 := ownT_at j (by omega)
    have ha : aft (uns c) ≤ (uns c).length := List.length_filter_le _ _
    refine ⟨[some (.scr ns), some (.int a), some (.str (mk (uns c) m)), some (.int mo), some (.lst ((rs ++ [(ownT j, c)]).map encO)), some (.int pre.length), some (.str (ownT j)), some (encC c)], ?_, rs ++ [(ownT j, c)], mk (uns c) m, _, _, _, rfl, ⟨by rw [List.map_append]; exact s.row.snoc hf, by simp [s.len], ?_, ?_, ?_, ?_⟩⟩
    · simp [b__law_rows_0, s70, l4, o2, o3, hc, hmd, l1, encO]
    · rw [hf.aft, List.length_append]; simp; omega
    · intro x hx
      rw [List.length_append]
      rcases List.mem_append.mp hx with hx | hx
      · have := s.each x hx; simp; omega
      · rw [List.mem_singleton] at hx; subst hx; simp; omega
    · intro x hx
      rcases List.mem_append.mp hx with hx | hx
      · exact s.own x hx
      · rw [List.mem_singleton] at hx; subst hx; exact ⟨j, by omega, rfl⟩
    · intro hct
      obtain ⟨h1, h2⟩ := s.ch hct
      have h3 := hch h1
      refine ⟨ok_mk h3 h1, fun x hx p hp => ?_⟩
      rw [List.length_append]
      rcases List.mem_append.mp hx with hx | hx
      · exact okP_mono (by simp; omega) (h2 x hx p hp)
      · rw [List.mem_singleton] at hx; subst hx; exact okP_mono (by simp; omega) (h3 p hp))
  rw [List.length_range] at s
  refine ⟨rs, m, ?_, by have := s.len; rw [this]; exact s, by have := s.len; omega⟩
  simp only [f__law_rows, s__law_rows, h0]
  simp at h1
  simp [hd0, hb, rgD0, h1]
end G81

/-! squeezed. -/
namespace G81
open PySem M
namespace M
/-- one row more -/
def addO (acc : List Ow) (o : Tx) (w : List Un) : List Ow := if 0 < cst w then acc ++ [(o, ou w)] else acc
def sqS (acc : List Ow) (r : Ow) : Option (List Ow) := match acc.getLast? with
  | some l => if l.1 = r.1 then (thn (uns l.2) (uns r.2)).map fun w => addO acc.dropLast r.1 w else some (addO acc r.1 (uns r.2))
  | none => some (addO acc r.1 (uns r.2))
def sqz : List Ow → List Ow → Option (List Ow)
  | acc, [] => some acc
  | acc, r :: rs => (sqS acc r).bind fun a => sqz a rs
def sumO (rs : List Ow) : Nat := (rs.map fun r => (uns r.2).length).sum
@[simp] theorem sumO_nil : sumO [] = 0 := rfl
@[simp] theorem sumO_cons (r : Ow) (rs : List Ow) : sumO (r :: rs) = (uns r.2).length + sumO rs := by simp [sumO]
@[simp] theorem sumO_app (a b : List Ow) : sumO (a ++ b) = sumO a + sumO b := by simp [sumO]
theorem sumO_le {rs : List Ow} {r : Ow} (h : r ∈ rs) : (uns r.2).length ≤ sumO rs := by
  induction rs with
  | nil => cases h
  | cons x rs ih =>
    rcases List.mem_cons.mp h with rfl | h
    · simp
    · have := ih h; simp; omega
theorem addO_sum (acc : List Ow) (o : Tx) (w : List Un) : sumO (addO acc o w) ≤ sumO acc + w.length ∧ (addO acc o w).length ≤ acc.length + 1 := by
  unfold addO; split <;> simp [ou_len]
theorem sqS_sum {acc a : List Ow} {r : Ow} (h : sqS acc r = some a) : sumO a ≤ sumO acc + (uns r.2).length ∧ a.length ≤ acc.length + 1 := by
  unfold sqS at h
  rcases List.eq_nil_or_concat acc with rfl | ⟨i, l, rfl⟩
  · simp only [List.getLast?_nil, Option.some.injEq] at h
    subst h; exact addO_sum _ _ _
  · rw [List.concat_eq_append] at *
    simp only [List.getLast?_concat, List.dropLast_concat] at h
    split at h
    · cases ht : thn (uns l.2) (uns r.2) with
      | none => rw [ht] at h; cases h
      | some w =>
        rw [ht] at h
        simp only [Option.map_some, Option.some.injEq] at h
        subst h
        have := addO_sum i r.1 w
        have hl := (thn_th _ _ _ ht).len
        simp
        omega
    · simp only [Option.some.injEq] at h
      subst h; exact addO_sum _ _ _
theorem add_fit {acc : List Ow} {o : Tx} {w : List Un} {t m : Tx} (h : Row t (acc.map (·.2)) m) (hf : Fit w m) : Row t ((addO acc o w).map (·.2)) (mk w m) := by
  unfold addO
  split
  · rw [List.map_append]
    have f2 : Fit (uns (ou w)) m := by rw [uns_ou, fit_nf]; exact hf
    have := h.snoc f2
    rw [mk_of_nf (nf_uns_ou w) f2] at this
    exact this
  · rename_i hc
    have hw := cst0 (show cst w = 0 by omega)
    have hb := hf.len
    rw [hb] at hw
    have := (fit_k m).2
    rw [hw, this]
    exact h
theorem sqS_fit {acc : List Ow} {r : Ow} {t m : Tx} (h : Row t (acc.map (·.2)) m) (hf : Fit (uns r.2) m) : ∃ a, sqS acc r = some a ∧ Row t (a.map (·.2)) (mk (uns r.2) m) := by
  unfold sqS
  rcases List.eq_nil_or_concat acc with rfl | ⟨i, l, rfl⟩
  · exact ⟨_, rfl, add_fit h hf⟩
  · rw [List.concat_eq_append] at *
    simp only [List.getLast?_concat, List.dropLast_concat]
    split
    · rw [List.map_append] at h
      obtain ⟨m0, h1, h2, h3⟩ := h.split
      have h3 : m = mk (uns l.2) m0 := h3
      subst h3
      obtain ⟨w, hw, T⟩ := Th.of_fit h2 hf
      have q := T.fit h2 hf
      refine ⟨addO i r.1 w, by rw [hw]; rfl, ?_⟩
      rw [← q.2]
      exact add_fit h1 q.1
    · exact ⟨_, rfl, add_fit h hf⟩
theorem sqz_fit : ∀ {rs acc : List Ow} {t m m' : Tx}, Row t (acc.map (·.2)) m → Row m (rs.map (·.2)) m' → ∃ fin, sqz acc rs = some fin ∧ Row t (fin.map (·.2)) m'
  | [], acc, t, m, m', h, h' => ⟨acc, rfl, by cases h'; exact h⟩
  | r :: rs, acc, t, m, m', h, h' => by
    obtain ⟨a, h1, h2⟩ := sqS_fit h h'.1
    obtain ⟨fin, h3, h4⟩ := sqz_fit h2 h'.2
    exact ⟨fin, by rw [sqz, h1]; exact h3, h4⟩
theorem sqz_sum : ∀ {rs acc fin : List Ow}, sqz acc rs = some fin → sumO fin ≤ sumO acc + sumO rs ∧ fin.length ≤ acc.length + rs.length
  | [], acc, fin, h => by cases h; simp
  | r :: rs, acc, fin, h => by
    rw [sqz] at h
    cases ha : sqS acc r with
    | none => rw [ha] at h; cases h
    | some a =>
      rw [ha] at h
      have h1 := sqS_sum ha
      have h2 := sqz_sum (rs := rs) (acc := a) h
      simp
      omega
theorem form_add (acc : List Ow) (o : Tx) (c : List Pt) : addO acc o (uns c) = if 0 < cst (uns c) then acc ++ [(o, form c)] else acc := rfl
end M
theorem cutL_init {α : Type} (l : List α) (x : α) : cutL (l ++ [x]) none (some (-1)) = l := by
  have h1 : HT.sIx (l ++ [x]).length 0 none = 0 := rfl
  have h2 : HT.sIx (l ++ [x]).length (l ++ [x]).length (some (-1)) = l.length := by
    simp [HT.sIx]
    omega
  unfold cutL
  rw [h1, h2]
  simp
theorem sq_step (E0 : Option D) (acc : List Ow) (r : Ow) (x y : Option D) (hl : acc.length ≤ 10000) (hs : sumO acc + (uns r.2).length ≤ 20000) :
    ∃ z, sOf (tsT [2, 3] (encO r) [E0, some (.lst (acc.map encO)), x, y]) b_squeezed_0 = match sqS acc r with | some a => .nx [E0, some (.lst (a.map encO)), some (.str r.1), z] | none => .er "NoFit" := by
  have lv := line_v
  obtain ⟨o, c⟩ := r
  simp only at hs
  have l1 : acc.length < line := by omega
  have k1 := f_cost_eq c (by omega)
  have k2 := f_form_eq c (by omega)
  rcases List.eq_nil_or_concat acc with rfl | ⟨i, l, rfl⟩
  · refine ⟨some (encC c), ?_⟩
    by_cases hc : 0 < cst (uns c)
    · simp [b_squeezed_0, encO, dNe_00, k1, k2, hc, sqS, form_add]
    · simp [b_squeezed_0, encO, dNe_00, k1, k2, hc, sqS, form_add]
  · rw [List.concat_eq_append] at *
    obtain ⟨o', c'⟩ := l
    simp only [sumO_app, sumO_cons, sumO_nil, List.length_append, List.length_cons, List.length_nil] at hs l1 hl
    have hd : dIx (.lst (i.map encO ++ [encO (o', c')])) (.int (-1)) = .ok (encO (o', c')) := dIx_last _ _
    have ne : dNe (.lst (i.map encO ++ [encO (o', c')])) (.lst []) = .ok true := by
      have := (en_O.lst).dNe (by decide) (i ++ [(o', c')]) []
      simp only [List.map_append, List.map_cons, List.map_nil] at this
      rw [this]; simp
    have cu : cutL (i.map encO ++ [encO (o', c')]) none (some (-1)) = i.map encO := cutL_init _ _
    have l2 : i.length < line := by omega
    have l3 : i.length + 1 ≤ line := by omega
    have l4 : i.length + 1 < line := by omega
    have hL : sqS (i ++ [(o', c')]) (o, c) = if o' = o then (thn (uns c') (uns c)).map fun w => addO i o w else some (addO (i ++ [(o', c')]) o (uns c)) := by
      simp [sqS]
    rw [hL]
    by_cases ho : o' = o
    · subst ho
      rw [if_pos rfl]
      have e1 := f_then_eq c' c (by omega) (by omega)
      cases ht : thn (uns c') (uns c) with
      | none =>
        rw [ht] at e1
        refine ⟨none, ?_⟩
        simp only [encO] at hd ne cu
        simp [b_squeezed_0, encO, hd, ne, e1]
      | some w =>
        rw [ht] at e1
        have wl := (thn_th _ _ _ ht).len
        have k3 := f_cost_eq (ou w) (by rw [ou_len]; omega)
        rw [uns_ou, cst_nf] at k3
        have k4 := f_form_eq (ou w) (by rw [ou_len]; omega)
        rw [form_ou] at k4
        refine ⟨some (encC (ou w)), ?_⟩
        simp only [encO] at hd ne cu
        simp only [Option.map_some, addO]
        by_cases hc : 0 < cst w
        · simp [b_squeezed_0, encO, hd, ne, e1, k3, k4, hc, cu, l2, l3]
        · simp [b_squeezed_0, encO, hd, ne, e1, k3, k4, hc, cu, l2, l3]
    · rw [if_neg ho]
      refine ⟨some (encC c), ?_⟩
      simp only [encO] at hd ne cu
      simp only [form_add]
      by_cases hc : 0 < cst (uns c)
      · simp [b_squeezed_0, encO, hd, ne, ho, k1, k2, hc, l4]
      · simp [b_squeezed_0, encO, hd, ne, ho, k1, hc]
theorem sq_loop (E0 : Option D) : ∀ (rs acc : List Ow) (x y : Option D), acc.length + rs.length ≤ 10000 → sumO acc + sumO rs ≤ 20000 →
    ∃ x' y', forF (tsT [2, 3]) b_squeezed_0 (rs.map encO) [E0, some (.lst (acc.map encO)), x, y] = match sqz acc rs with | some a => .nx [E0, some (.lst (a.map encO)), x', y'] | none => .er "NoFit"
  | [], acc, x, y, _, _ => ⟨x, y, by simp [forF, sqz]⟩
  | r :: rs, acc, x, y, hl, hs => by
    simp only [List.length_cons, sumO_cons] at hl hs
    obtain ⟨z, hz⟩ := sq_step E0 acc r x y (by omega) (by omega)
    rw [List.map_cons, forF_step, hz, sqz]
    cases ha : sqS acc r with
    | none => exact ⟨none, none, rfl⟩
    | some a =>
      have := sqS_sum ha
      exact sq_loop E0 rs a _ _ (by omega) (by omega)
theorem f_squeezed_eq (rs : List Ow) (hl : rs.length ≤ 10000) (hs : sumO rs ≤ 20000) : f_squeezed [.lst (rs.map encO)] = match sqz [] rs with | some a => .ok (.lst (a.map encO)) | none => .err "NoFit" := by
  have h2 : startE N_squeezed [.lst (rs.map encO)] = [some (.lst (rs.map encO)), none, none, none] := rfl
  obtain ⟨x', y', q⟩ := sq_loop (some (.lst (rs.map encO))) rs [] none none (by simpa using hl) (by simpa using hs)
  have lv := line_v
  have l1 : rs.length ≤ line := by omega
  simp only [f_squeezed, s_squeezed, h2]
  simp at q
  cases hz : sqz [] rs with
  | none => rw [hz] at q; simp [q]
  | some a => rw [hz] at q; simp [q]
end G81

/-! Who put what. -/
namespace G81
namespace M
/-- the owners of what is made -/
def mw (o : Tx) : List Un → List (Option Tx) → List (Option Tx)
  | [], _ => []
  | .p _ :: us, m => some o :: mw o us m
  | .k :: us, x :: m => x :: mw o us m
  | .d _ :: us, _ :: m => mw o us m
  | .k :: _, [] => []
  | .d _ :: _, [] => []
/-- the owners of what is dropped -/
def gn : List Un → List (Option Tx) → List (Option Tx)
  | [], _ => []
  | .p _ :: us, m => gn us m
  | .k :: us, _ :: m => gn us m
  | .d _ :: us, x :: m => x :: gn us m
  | .k :: _, [] => []
  | .d _ :: _, [] => []
theorem mw_len (o : Tx) (us : List Un) : ∀ m : List (Option Tx), m.length = bef us → (mw o us m).length = aft us := by
  induction us with
  | nil => intro m h; rfl
  | cons u us ih =>
    intro m h
    cases u with
    | p c =>
      have e : aft (Un.p c :: us) = aft us + 1 := by simp
      rw [mw, List.length_cons, ih m (by simpa using h), e]
    | k =>
      cases m with
      | nil => simp at h
      | cons x m =>
        have e : aft (Un.k :: us) = aft us + 1 := by simp
        rw [mw, List.length_cons, ih m (by simpa using h), e]
    | d c =>
      cases m with
      | nil => simp at h
      | cons x m =>
        have e : aft (Un.d c :: us) = aft us := by simp
        rw [mw, ih m (by simpa using h), e]
theorem gn_len (us : List Un) : ∀ m : List (Option Tx), (gn us m).length ≤ us.length := by
  induction us with
  | nil => intro m; simp [gn]
  | cons u us ih =>
    intro m
    cases u with
    | p c => have := ih m; simp [gn]; omega
    | k => cases m with
      | nil => simp [gn]
      | cons x m => have := ih m; simp [gn]; omega
    | d c => cases m with
      | nil => simp [gn]
      | cons x m => have := ih m; simp [gn]; omega
theorem mw_nfA (o : Tx) (us : List Un) : ∀ (g n : Tx) (m : List (Option Tx)), m.length = g.length + bef us → mw o (nfA us g n) m = n.map (fun _ => some o) ++ mw o us (m.drop g.length) := by
  have hp : ∀ (n : Tx) (us : List Un) (m : List (Option Tx)), mw o (n.map .p ++ us) m = n.map (fun _ => some o) ++ mw o us m := by
    intro n us m
    induction n with
    | nil => rfl
    | cons c n ih => simp [mw, ih]
  have hd : ∀ (g : Tx) (us : List Un) (m : List (Option Tx)), g.length ≤ m.length → mw o (g.map .d ++ us) m = mw o us (m.drop g.length) := by
    intro g
    induction g with
    | nil => intro us m h; rfl
    | cons c g ih => intro us m h; cases m with
      | nil => simp at h
      | cons x m => simp [mw]; exact ih us m (by simpa using h)
  induction us with
  | nil =>
    intro g n m h
    rw [nfA, hd g _ m (by simp at h; omega)]
    have := hp n [] (m.drop g.length)
    simpa [mw] using this
  | cons u us ih =>
    intro g n m h
    cases u with
    | k =>
      have h' : m.length = g.length + (bef us + 1) := by simpa using h
      rw [nfA, List.append_assoc, hd g _ m (by omega), hp]
      congr 1
      cases hm : m.drop g.length with
      | nil => have := congrArg List.length hm; simp at this; omega
      | cons x r =>
        have hr : r.length = bef us := by have := congrArg List.length hm; simp at this; omega
        rw [mw, mw, ih [] [] r (by simpa using hr)]
        rfl
    | d c =>
      have h' : m.length = g.length + (bef us + 1) := by simpa using h
      rw [nfA, ih (g ++ [c]) n m (by simp; omega)]
      congr 1
      cases hm : m.drop g.length with
      | nil => have := congrArg List.length hm; simp at this; omega
      | cons x r =>
        rw [mw, List.length_append, ← List.drop_drop, hm]; rfl
    | p c =>
      have h' : m.length = g.length + bef us := by simpa using h
      rw [nfA, ih g (n ++ [c]) m h', mw]
      simp
theorem mw_nf (o : Tx) (u : List Un) (m : List (Option Tx)) (h : m.length = bef u) : mw o (nf u) m = mw o u m := by
  have := mw_nfA o u [] [] m (by simpa using h)
  simpa [nf] using this
theorem mw_of_nf (o : Tx) {u v : List Un} (e : nf u = nf v) (m : List (Option Tx)) (h : m.length = bef u) : mw o u m = mw o v m := by
  rw [← mw_nf o u m h, e, mw_nf o v m (by rw [h, bef_of_nf e])]
theorem Th.mw {a b r : List Un} (h : Th a b r) (o : Tx) : ∀ m : List (Option Tx), m.length = M.bef a → M.mw o r m = M.mw o b (M.mw o a m) := by
  induction h with
  | dd h ih => intro m hm; cases m with
    | nil => simp at hm
    | cons x m => simp only [M.mw]; exact ih m (by simpa using hm)
  | pp h ih => intro m hm; simp only [M.mw]; rw [ih m hm]
  | nl => intro m hm; rfl
  | kk h ih => intro m hm; cases m with
    | nil => simp at hm
    | cons x m => simp only [M.mw]; rw [ih m (by simpa using hm)]
  | kd h ih => intro m hm; cases m with
    | nil => simp at hm
    | cons x m => simp only [M.mw]; exact ih m (by simpa using hm)
  | pk h ih => intro m hm; simp only [M.mw]; rw [ih m (by simpa using hm)]
  | pd h ih => intro m hm; simp only [M.mw]; exact ih m (by simpa using hm)
def mwR : List Ow → List (Option Tx) → List (Option Tx)
  | [], m => m
  | (o, c) :: rs, m => mwR rs (mw o (uns c) m)
theorem mwR_app (a b : List Ow) : ∀ m, mwR (a ++ b) m = mwR b (mwR a m) := by
  induction a with
  | nil => intro m; rfl
  | cons r a ih => intro m; simp only [List.cons_append, mwR]; exact ih _
theorem mw_kk (o : Tx) (n : Nat) : ∀ m : List (Option Tx), m.length = n → mw o (List.replicate n .k) m = m := by
  induction n with
  | zero => intro m h; rw [List.length_eq_zero_iff.mp h]; rfl
  | succ n ih => intro m h; cases m with
    | nil => simp at h
    | cons x m => rw [List.replicate_succ, mw, ih m (by simpa using h)]
theorem add_mw {acc : List Ow} {o : Tx} {w : List Un} (m : List (Option Tx)) (h : (mwR acc m).length = bef w) : mwR (addO acc o w) m = mw o w (mwR acc m) := by
  unfold addO
  split
  · rw [mwR_app]
    simp only [mwR]
    exact mw_of_nf o (nf_uns_ou w) _ (by rw [h, uns_ou, bef_nf])
  · rename_i hc
    have hw := cst0 (show cst w = 0 by omega)
    conv => rhs; rw [hw]
    rw [mw_kk _ _ _ h]
theorem row_mw {t m : Tx} : ∀ {rs : List Ow} {M0 : List (Option Tx)}, Row t (rs.map (·.2)) m → M0.length = t.length → (mwR rs M0).length = m.length := by
  intro rs
  induction rs generalizing t with
  | nil => intro M0 h hm; have h : m = t := h; rw [h]; exact hm
  | cons r rs ih =>
    intro M0 h hm
    obtain ⟨o, c⟩ := r
    have hf : Fit (uns c) t := h.1
    exact ih h.2 (by rw [mw_len o _ _ (by rw [hm, hf.len]), hf.aft])
theorem sqS_mw {acc : List Ow} {r : Ow} {t m : Tx} {M0 : List (Option Tx)} (hM : M0.length = t.length) (h : Row t (acc.map (·.2)) m) (hf : Fit (uns r.2) m) : ∃ a, sqS acc r = some a ∧ mwR a M0 = mw r.1 (uns r.2) (mwR acc M0) := by
  have hl := row_mw h hM
  unfold sqS
  rcases List.eq_nil_or_concat acc with rfl | ⟨i, l, rfl⟩
  · exact ⟨_, rfl, add_mw M0 (by rw [hl, hf.len])⟩
  · rw [List.concat_eq_append] at *
    simp only [List.getLast?_concat, List.dropLast_concat]
    split
    · rename_i ho
      rw [List.map_append] at h
      obtain ⟨m0, h1, h2, h3⟩ := h.split
      have h3 : m = mk (uns l.2) m0 := h3
      subst h3
      obtain ⟨w, hw, T⟩ := Th.of_fit h2 hf
      have l0 := row_mw h1 hM
      refine ⟨addO i r.1 w, by rw [hw]; rfl, ?_⟩
      have h2' : Fit (uns l.2) m0 := h2
      rw [add_mw M0 (by rw [l0, T.bef, h2'.len]), mwR_app, T.mw r.1 _ (by rw [l0, h2'.len])]
      obtain ⟨lo, lc⟩ := l
      simp only at ho
      subst ho
      rfl
    · exact ⟨_, rfl, add_mw M0 (by rw [hl, hf.len])⟩
theorem sqz_mw {M0 : List (Option Tx)} : ∀ {rs acc fin : List Ow} {t m m' : Tx}, M0.length = t.length → Row t (acc.map (·.2)) m → Row m (rs.map (·.2)) m' → sqz acc rs = some fin → mwR fin M0 = mwR rs (mwR acc M0)
  | [], acc, fin, t, m, m', hM, h, h', hz => by cases hz; rfl
  | r :: rs, acc, fin, t, m, m', hM, h, h', hz => by
    obtain ⟨a, h1, h2⟩ := sqS_mw hM h h'.1
    obtain ⟨a', h3, h4⟩ := sqS_fit h h'.1
    rw [h1] at h3
    cases h3
    rw [sqz, h1] at hz
    have hz : sqz a rs = some fin := hz
    rw [sqz_mw hM h4 h'.2 hz, h2]
    obtain ⟨o, c⟩ := r
    rfl
end M
open PySem M
def encM : Option Tx → D
  | none => .non
  | some o => .str o
theorem en_M : En encM 0 := ⟨fun p => by cases p <;> simp [encM], fun p => by cases p <;> simp [encM], fun a b => by
  cases a <;> cases b <;> simp [encM]⟩
theorem un_loop (t : Tx) (ml : List (Option Tx)) (o : Tx) (hm : ml.length = t.length) (ht : t.length ≤ 100000) (E1 E5 : Option D) : ∀ (us : List Un) (p : Nat) (gone fr : List (Option Tx)) (new : Tx) (x y : Option D), p ≤ t.length → Fit us (t.drop p) → gone.length + us.length ≤ 100000 → fr.length + us.length ≤ 100000 → new.length + us.length ≤ 100000 →
    ∃ x' y', forF (tsT [9, 10]) b_gone_over_0 (us.map encU) [some (.str t), E1, some (.lst (ml.map encM)), some (.lst (gone.map encM)), some (.str o), E5, some (.int p), some (.lst (fr.map encM)), some (.str new), x, y] =
      .nx [some (.str t), E1, some (.lst (ml.map encM)), some (.lst ((gone ++ gn us (ml.drop p)).map encM)), some (.str o), E5, some (.int t.length), some (.lst ((fr ++ mw o us (ml.drop p)).map encM)), some (.str (new ++ mk us (t.drop p))), x', y']
  | [], p, gone, fr, new, x, y, hp, hf, _, _, _ => by
    have hf : t.drop p = [] := hf
    have : p = t.length := by have := congrArg List.length hf; simp at this; omega
    subst this
    exact ⟨x, y, by simp [forF, gn, mw, mk]⟩
  | u :: us, p, gone, fr, new, x, y, hp, hf, h1, h2, h3 => by
    have lv := line_v
    simp only [List.length_cons] at h1 h2 h3
    have l1 : fr.length < line := by omega
    have l2 : gone.length < line := by omega
    have l3 : new.length + 1 ≤ line := by omega
    rw [List.map_cons, forF_step]
    cases u with
    | p c =>
      have e : sOf (tsT [9, 10] (encU (.p c)) [some (.str t), E1, some (.lst (ml.map encM)), some (.lst (gone.map encM)), some (.str o), E5, some (.int p), some (.lst (fr.map encM)), some (.str new), x, y]) b_gone_over_0 =
          .nx [some (.str t), E1, some (.lst (ml.map encM)), some (.lst (gone.map encM)), some (.str o), E5, some (.int p), some (.lst ((fr ++ [some o]).map encM)), some (.str (new ++ [c])), some (.str ['p','u','t']), some (.str [c])] := by
        simp [b_gone_over_0, encU, l1, l3, encM]
      obtain ⟨x', y', q⟩ := un_loop t ml o hm ht E1 E5 us p gone (fr ++ [some o]) (new ++ [c]) (some (.str ['p','u','t'])) (some (.str [c])) hp hf (by omega) (by simp; omega) (by simp; omega)
      refine ⟨x', y', ?_⟩
      rw [e]
      simp only []
      rw [q]
      simp [gn, mw, mk]
    | k =>
      cases hd : t.drop p with
      | nil => rw [hd] at hf; exact hf.elim
      | cons c r =>
        rw [hd] at hf
        have hlt : p < t.length := by have := congrArg List.length hd; simp at this; omega
        have hr : t.drop (p + 1) = r := by rw [← List.drop_drop, hd]; rfl
        have hc : t[p]? = some c := by
          have := List.drop_eq_getElem_cons hlt
          rw [hd] at this
          rw [List.getElem?_eq_getElem hlt]
          exact congrArg some (List.cons.inj this).1.symm
        have hmd : ml.drop p = ml[p] :: ml.drop (p + 1) := List.drop_eq_getElem_cons (by omega)
        have i1 : dIx (.str t) (.int p) = .ok (.str [c]) := by rw [dIx_nat_str _ _ (by omega), hc]
        have i2 : dIx (.lst (ml.map encM)) (.int p) = .ok (encM ml[p]) := by rw [dIx_nat_lst, List.getElem?_map, List.getElem?_eq_getElem (by omega)]; rfl
        have e : sOf (tsT [9, 10] (encU .k) [some (.str t), E1, some (.lst (ml.map encM)), some (.lst (gone.map encM)), some (.str o), E5, some (.int p), some (.lst (fr.map encM)), some (.str new), x, y]) b_gone_over_0 =
            .nx [some (.str t), E1, some (.lst (ml.map encM)), some (.lst (gone.map encM)), some (.str o), E5, some (.int (p + 1 : Nat)), some (.lst ((fr ++ [ml[p]]).map encM)), some (.str (new ++ [c])), some (.str ['k','e','e','p']), some (.str [])] := by
          simp [b_gone_over_0, encU, l1, l3, i1, i2]
        obtain ⟨x', y', q⟩ := un_loop t ml o hm ht E1 E5 us (p + 1) gone (fr ++ [ml[p]]) (new ++ [c]) (some (.str ['k','e','e','p'])) (some (.str [])) (by omega) (by rw [hr]; exact hf) (by omega) (by simp; omega) (by simp; omega)
        refine ⟨x', y', ?_⟩
        rw [e]
        simp only []
        rw [q, hmd, hr]
        simp [gn, mw, mk]
    | d z =>
      cases hd : t.drop p with
      | nil => rw [hd] at hf; exact hf.elim
      | cons c r =>
        rw [hd] at hf
        have hlt : p < t.length := by have := congrArg List.length hd; simp at this; omega
        have hr : t.drop (p + 1) = r := by rw [← List.drop_drop, hd]; rfl
        have hmd : ml.drop p = ml[p] :: ml.drop (p + 1) := List.drop_eq_getElem_cons (by omega)
        have i2 : dIx (.lst (ml.map encM)) (.int p) = .ok (encM ml[p]) := by rw [dIx_nat_lst, List.getElem?_map, List.getElem?_eq_getElem (by omega)]; rfl
        have e : sOf (tsT [9, 10] (encU (.d z)) [some (.str t), E1, some (.lst (ml.map encM)), some (.lst (gone.map encM)), some (.str o), E5, some (.int p), some (.lst (fr.map encM)), some (.str new), x, y]) b_gone_over_0 =
            .nx [some (.str t), E1, some (.lst (ml.map encM)), some (.lst ((gone ++ [ml[p]]).map encM)), some (.str o), E5, some (.int (p + 1 : Nat)), some (.lst (fr.map encM)), some (.str new), some (.str ['d','r','o','p']), some (.str [z])] := by
          simp [b_gone_over_0, encU, l2, i2]
        obtain ⟨x', y', q⟩ := un_loop t ml o hm ht E1 E5 us (p + 1) (gone ++ [ml[p]]) fr new (some (.str ['d','r','o','p'])) (some (.str [z])) (by omega) (by rw [hr]; exact hf.2) (by simp; omega) (by omega) (by omega)
        refine ⟨x', y', ?_⟩
        rw [e]
        simp only []
        rw [q, hmd, hr]
        simp [gn, mw, mk]
def gnR : List Ow → List (Option Tx) → List (Option Tx)
  | [], _ => []
  | (o, c) :: rs, m => gn (uns c) m ++ gnR rs (mw o (uns c) m)
theorem row_loop (E1 : Option D) : ∀ (rs : List Ow) (t t' : Tx) (ml gone : List (Option Tx)) (x4 x5 x6 x7 x8 x9 x10 : Option D), Row t (rs.map (·.2)) t' → ml.length = t.length → t.length + sumO rs ≤ 40000 → gone.length + sumO rs ≤ 40000 →
    ∃ y4 y5 y6 y7 y8 y9 y10, forF (tsT [4, 5]) b_gone_over_1 (rs.map encO) [some (.str t), E1, some (.lst (ml.map encM)), some (.lst (gone.map encM)), x4, x5, x6, x7, x8, x9, x10] =
      .nx [some (.str t'), E1, some (.lst ((mwR rs ml).map encM)), some (.lst ((gone ++ gnR rs ml).map encM)), y4, y5, y6, y7, y8, y9, y10]
  | [], t, t', ml, gone, x4, x5, x6, x7, x8, x9, x10, h, _, _, _ => by cases h; exact ⟨x4, x5, x6, x7, x8, x9, x10, by simp [forF, mwR, gnR]⟩
  | (o, c) :: rs, t, t', ml, gone, x4, x5, x6, x7, x8, x9, x10, h, hm, h1, h2 => by
    have lv := line_v
    simp only [sumO_cons] at h1 h2
    have hf : Fit (uns c) t := h.1
    have f1 := f_fits_eq c t (by omega) (by omega)
    simp only [hf, decide_true] at f1
    have u1 := f_units_of_eq c (by omega)
    obtain ⟨x', y', q⟩ := un_loop t ml o hm (by omega) E1 (some (encC c)) (uns c) 0 gone [] [] x9 x10 (by omega) hf (by omega) (by simp; omega) (by simp; omega)
    simp only [List.drop_zero, List.nil_append, List.map_nil] at q
    rw [show ((0 : Nat) : Int) = 0 from rfl] at q
    have e : sOf (tsT [4, 5] (encO (o, c)) [some (.str t), E1, some (.lst (ml.map encM)), some (.lst (gone.map encM)), x4, x5, x6, x7, x8, x9, x10]) b_gone_over_1 =
        .nx [some (.str (mk (uns c) t)), E1, some (.lst ((mw o (uns c) ml).map encM)), some (.lst ((gone ++ gn (uns c) ml).map encM)), some (.str o), some (encC c), some (.int t.length), some (.lst ((mw o (uns c) ml).map encM)), some (.str (mk (uns c) t)), x', y'] := by
      simp [b_gone_over_1, encO, f1, u1, encUs, q]
    have ha : aft (uns c) ≤ (uns c).length := List.length_filter_le _ _
    have hg := gn_len (uns c) ml
    obtain ⟨y4, y5, y6, y7, y8, y9, y10, q2⟩ := row_loop E1 rs (mk (uns c) t) t' (mw o (uns c) ml) (gone ++ gn (uns c) ml) (some (.str o)) (some (encC c)) (some (.int t.length)) (some (.lst ((mw o (uns c) ml).map encM))) (some (.str (mk (uns c) t))) x' y' h.2 (by rw [mw_len o _ _ (by rw [hm, hf.len]), hf.aft]) (by rw [hf.aft]; omega) (by rw [List.length_append]; omega)
    refine ⟨y4, y5, y6, y7, y8, y9, y10, ?_⟩
    rw [List.map_cons, forF_step, e]
    simp only []
    rw [q2]
    simp [mwR, gnR]
theorem f_gone_eq (t t' : Tx) (rs : List Ow) (h : Row t (rs.map (·.2)) t') (hl : rs.length ≤ 10000) (hs : t.length + sumO rs ≤ 20000) : f_gone_over [.str t, .lst (rs.map encO)] = .ok (.tup [.lst ((mwR rs (List.replicate t.length none)).map encM), .lst ((gnR rs (List.replicate t.length none)).map encM), .str t']) := by
  have h2 : startE N_gone_over [.str t, .lst (rs.map encO)] = [some (.str t), some (.lst (rs.map encO)), none, none, none, none, none, none, none, none, none] := rfl
  have lv := line_v
  obtain ⟨y4, y5, y6, y7, y8, y9, y10, q⟩ := row_loop (some (.lst (rs.map encO))) rs t t' (List.replicate t.length none) [] none none none none none none none h (by simp) (by omega) (by simp; omega)
  have r1 : repOk 1 t.length := repOkN 1 _ (by omega)
  have tl : t.length ≤ line := by omega
  rw [List.map_replicate, show encM none = D.non from rfl] at q
  simp only [List.map_nil, List.nil_append] at q
  simp only [f_gone_over, s_gone_over, h2]
  simp [r1, tl, q]
theorem f_owners_eq (t t' : Tx) (rs : List Ow) (h : Row t (rs.map (·.2)) t') (hl : rs.length ≤ 10000) (hs : t.length + sumO rs ≤ 20000) : f_owners [.str t, .lst (rs.map encO)] = .ok (.lst ((mwR rs (List.replicate t.length none)).map encM)) := by
  have h2 : startE N_owners [.str t, .lst (rs.map encO)] = [some (.str t), some (.lst (rs.map encO))] := rfl
  simp only [f_owners, s_owners, h2]
  simp [f_gone_eq t t' rs h hl hs]
end G81

/-! counted, shares, lost; owned changes that do not fit; the laws' own marks. -/
namespace G81
open PySem M
theorem forF_app {tgt : D → Ev → R Ev} {fb : Ev → Out} : ∀ (a b : List D) (e : Ev), forF tgt fb (a ++ b) e = match forF tgt fb a e with | .nx e2 => forF tgt fb b e2 | o => o
  | [], b, e => rfl
  | d :: a, b, e => by
    rw [List.cons_append, forF_step, forF_step]
    cases sOf (tgt d e) fb <;> simp only [] 
    exact forF_app a b _
/-! ### refusals -/
theorem gone_err (t m : Tx) (rs : List Ow) (o : Tx) (c : List Pt) (rest : List Ow) (h : Row t (rs.map (·.2)) m) (hf : ¬ Fit (uns c) m) (hl : rs.length ≤ 10000) (hs : t.length + sumO rs ≤ 20000) (hm : m.length ≤ 10000) (hc : (uns c).length ≤ 10000) :
    f_gone_over [.str t, .lst ((rs ++ (o, c) :: rest).map encO)] = .err "NoFit" := by
  have h2 : startE N_gone_over [.str t, .lst ((rs ++ (o, c) :: rest).map encO)] = [some (.str t), some (.lst ((rs ++ (o, c) :: rest).map encO)), none, none, none, none, none, none, none, none, none] := rfl
  have lv := line_v
  obtain ⟨y4, y5, y6, y7, y8, y9, y10, q⟩ := row_loop (some (.lst ((rs ++ (o, c) :: rest).map encO))) rs t m (List.replicate t.length none) [] none none none none none none none h (by simp) (by omega) (by simp; omega)
  have f1 := f_fits_eq c m (by omega) (by omega)
  simp only [hf, decide_false] at f1
  have e : sOf (tsT [4, 5] (encO (o, c)) [some (.str m), some (.lst ((rs ++ (o, c) :: rest).map encO)), some (.lst ((mwR rs (List.replicate t.length none)).map encM)), some (.lst (([] ++ gnR rs (List.replicate t.length none)).map encM)), y4, y5, y6, y7, y8, y9, y10]) b_gone_over_1 = .er "NoFit" := by
    simp [b_gone_over_1, encO, f1]
  have r1 : repOk 1 t.length := repOkN 1 _ (by omega)
  have tl : t.length ≤ line := by omega
  have q2 : forF (tsT [4, 5]) b_gone_over_1 ((rs ++ (o, c) :: rest).map encO) [some (.str t), some (.lst ((rs ++ (o, c) :: rest).map encO)), some (.lst ((List.replicate t.length none).map encM)), some (.lst (([] : List (Option Tx)).map encM)), none, none, none, none, none, none, none] = .er "NoFit" := by
    conv => lhs; arg 3; rw [List.map_append, List.map_cons]
    rw [forF_app, q]
    simp only []
    rw [forF_step, e]
  rw [List.map_replicate, show encM none = D.non from rfl] at q2
  simp only [List.map_nil, List.nil_append] at q2
  generalize hLL : (rs ++ (o, c) :: rest).map encO = LL at *
  simp only [f_gone_over, s_gone_over, h2]
  simp [r1, tl, q2]
/-! ### counted -/
def cntd (ml : List (Option Tx)) : List (Tx × Nat) := (setsT (ml.filterMap id)).map fun n => (n, ml.count (some n))
def encN (p : Tx × Nat) : D := .tup [.str p.1, .int p.2]
theorem en_N : En encN 1 := en_str.pair en_nat
theorem intsD_str (s : Tx) (l : List D) : intsD (.str s :: l) = none := rfl
theorem strsOf_strs : ∀ l : List Tx, strsOf (l.map D.str) = some l
  | [] => rfl
  | x :: l => by simp [strsOf, strsOf_strs l]
theorem dSortSet2_T (ss : List Tx) (h1 : (ddp ss).length < 64) (h2 : ss.length < 1000) : dSortSet2 [.lst (ss.map D.str)] = .ok (.lst ((setsT ss).map D.str)) := by
  cases ss with
  | nil =>
    have : setsT [] = [] := by simp [setsT, srtT, ddp]
    rw [this]
    simp [dSortSet2, intsD]
  | cons s ss =>
    have e : intsD (List.map D.str (s :: ss)) = none := rfl
    simp only [dSortSet2, e, strsOf_strs]
    rw [if_pos ⟨h1, h2⟩]
theorem fl_M (m : Option Tx) : flD (encM m) = true := by cases m <;> rfl
theorem fl_Ms (ml : List (Option Tx)) : (ml.map encM).all flD = true := by
  rw [List.all_map, List.all_eq_true]; intro x _; exact fl_M x
theorem eq_M (x : Option Tx) (n : Tx) : eqD (encM x) (.str n) = decide (x = some n) := by cases x <;> simp [encM]
theorem dCount_M (ml : List (Option Tx)) (n : Tx) : dCount (ml.map encM) (.str n) = .ok (.int (ml.count (some n) : Nat)) := by
  unfold dCount
  rw [if_pos ⟨fl_Ms ml, rfl⟩, List.countP_map]
  congr 3
  unfold List.count
  congr 1
  funext x
  show eqD (encM x) (.str n) = (x == some n)
  rw [eq_M]
  cases h : decide (x = some n) with
  | true => simp at h; simp [h]
  | false => simp at h; simp [h]
theorem dIn_M (ml : List (Option Tx)) (n : Tx) : dIn (.str n) (.lst (ml.map encM)) = .ok (decide (some n ∈ ml)) := by
  unfold dIn
  simp only []
  rw [if_pos ⟨rfl, fl_Ms ml⟩]
  congr 1
  unfold inL
  rw [List.any_map]
  induction ml with
  | nil => rfl
  | cons x ml ih =>
    rw [List.any_cons, ih]
    show (eqD (encM x) (.str n) || _) = _
    rw [eq_M]
    by_cases h : x = some n
    · simp [h]
    · have h' : ¬ some n = x := fun z => h z.symm
      simp [h, h']
theorem f_counted_eq (ml : List (Option Tx)) (h1 : ml.length ≤ 900) (h2 : (ddp (ml.filterMap id)).length < 64) : f_counted [.lst (ml.map encM)] = .ok (.lst ((cntd ml).map encN)) := by
  have e0 : startE N_counted [.lst (ml.map encM)] = [some (.lst (ml.map encM)), none, none] := rfl
  have l1 : (ml.filterMap id).length ≤ ml.length := List.length_filterMap_le _ _
  have c1 := lcF_fm (tgt := tsN 2) (tst := tCm dNotN (eVar 2) eNon) (elt := eVar 2) (env := [some (.lst (ml.map encM)), none, none]) encM (fun x => x.isSome) encM ml (fun x _ => by
    cases x <;> exact ⟨_, rfl, rfl, fun h => by first | cases h; done | rfl⟩)
  have e1 : (ml.filter fun x => x.isSome).map encM = (ml.filterMap id).map D.str := by
    clear c1 l1 h2 h1 e0
    induction ml with
    | nil => rfl
    | cons x ml ih => cases x <;> simp [encM, ih]
  rw [e1] at c1
  have s1 := dSortSet2_T (ml.filterMap id) h2 (by omega)
  have c2 := fun ev1 => lcF_map (tgt := tsN 2) (tst := tTrue) (elt := eTup (aCons (eVar 2) (aCons (eLm dCount (eVar 0) (eVar 2)) aNil))) (env := [some (.lst (ml.map encM)), some ev1, none]) D.str (fun n => encN (n, ml.count (some n))) (setsT (ml.filterMap id)) (fun n _ => ⟨_, rfl, rfl, by simp [eLm, dCount_M, encN]⟩)
  have lv := line_v
  have l2 : (setsT (ml.filterMap id)).length ≤ line := by
    unfold setsT
    rw [(srtT_perm _).length_eq]; omega
  have l3 : ml.length ≤ line := by omega
  simp only [f_counted, s_counted, e0]
  simp [c1, s1, c2, l2, l3, cntd, List.map_map, Function.comp_def]
/-! ### shares, lost -/
theorem f_shares_eq (t t' : Tx) (rs : List Ow) (h : Row t (rs.map (·.2)) t') (hl : rs.length ≤ 10000) (hs : t.length + sumO rs ≤ 20000) (h1 : (mwR rs (List.replicate t.length none)).length ≤ 900) (h2 : (ddp ((mwR rs (List.replicate t.length none)).filterMap id)).length < 64) :
    f_shares [.str t, .lst (rs.map encO)] = .ok (.lst ((cntd (mwR rs (List.replicate t.length none))).map encN)) := by
  have e0 : startE N_shares [.str t, .lst (rs.map encO)] = [some (.str t), some (.lst (rs.map encO))] := rfl
  simp only [f_shares, s_shares, e0]
  simp [f_gone_eq t t' rs h hl hs, f_counted_eq _ h1 h2]
theorem f_lost_eq (t t' : Tx) (rs : List Ow) (h : Row t (rs.map (·.2)) t') (hl : rs.length ≤ 10000) (hs : t.length + sumO rs ≤ 20000) (h1 : (gnR rs (List.replicate t.length none)).length ≤ 900) (h2 : (ddp ((gnR rs (List.replicate t.length none)).filterMap id)).length < 64) :
    f_lost [.str t, .lst (rs.map encO)] = .ok (.lst ((cntd (gnR rs (List.replicate t.length none))).map encN)) := by
  have e0 : startE N_lost [.str t, .lst (rs.map encO)] = [some (.str t), some (.lst (rs.map encO))] := rfl
  simp only [f_lost, s_lost, e0]
  simp [f_gone_eq t t' rs h hl hs, f_counted_eq _ h1 h2]
theorem f_owners_err {t : Tx} {L : D} (h : f_gone_over [.str t, L] = .err "NoFit") : f_owners [.str t, L] = .err "NoFit" ∧ f_shares [.str t, L] = .err "NoFit" ∧ f_lost [.str t, L] = .err "NoFit" := by
  have e0 : startE N_owners [.str t, L] = [some (.str t), some L] := rfl
  have e1 : startE N_shares [.str t, L] = [some (.str t), some L] := rfl
  have e2 : startE N_lost [.str t, L] = [some (.str t), some L] := rfl
  refine ⟨?_, ?_, ?_⟩
  · simp only [f_owners, s_owners, e0]; simp [h]
  · simp only [f_shares, s_shares, e1]; simp [h]
  · simp only [f_lost, s_lost, e2]; simp [h]
end G81

namespace G81
open PySem M
/-! ### what a change is -/
def SG : Tx := ['a','b','c','d','e','f','g','h','i','j','k','l','m','n','o','p','q','r','s','t','u','v','w','x','y','z',' ']
def pOk : Pt → Bool
  | .keep n => decide (1 ≤ n ∧ n ≤ 99)
  | .put s => s.all (fun c => decide (c ∈ SG)) && decide (1 ≤ s.length ∧ s.length ≤ 8)
  | .drop s => s.all (fun c => decide (c ∈ SG)) && decide (1 ≤ s.length ∧ s.length ≤ 8)
def cOk (c : List Pt) : Bool := decide (c.length ≤ 12) && c.all pOk
theorem blsOf_map {α : Type} (f : α → Bool) : ∀ xs : List α, blsOf (xs.map fun x => D.bl (f x)) = some (xs.map f)
  | [] => rfl
  | x :: xs => by simp [blsOf, blsOf_map f xs]
theorem dAll_map {α : Type} (f : α → Bool) (xs : List α) : dAll [.lst (xs.map fun x => D.bl (f x))] = .ok (.bl (xs.all f)) := by
  simp [dAll, blsOf_map, List.all_map, Function.comp_def]
/-- no part is of more than so many signs -/
def szP (m : Nat) : Pt → Prop
  | .keep n => n ≤ m
  | .put s => s.length ≤ m
  | .drop s => s.length ≤ m
theorem f_is_signs_eq (s : Tx) (h : s.length ≤ 100000) : f_is_signs [.str s] = .ok (.bl (s.all fun c => decide (c ∈ SG))) := by
  have lv := line_v
  have h2 : startE N_is_signs [.str s] = [some (.str s), none] := rfl
  have l1 : s.length ≤ line := by omega
  have k := lcF_map (tgt := tsN 1) (tst := tTrue) (elt := eCm dIn (eVar 1) (eStr "abcdefghijklmnopqrstuvwxyz ")) (env := [some (.str s), none]) (fun c => D.str [c]) (fun c => D.bl (decide (c ∈ SG))) s (fun c _ => ⟨_, rfl, rfl, by simp [dIn, SG]⟩)
  have q := dAll_map (fun c => decide (c ∈ SG)) s
  simp only [f_is_signs, s_is_signs, h2]
  simp [-lcF, k, q, l1]
theorem f_is_part_eq (p : Pt) (h : szP 100000 p) : f_is_part [encP p] = .ok (.bl (pOk p)) := by
  have lv := line_v
  have h2 : startE N_is_part [encP p] = [some (encP p)] := rfl
  have n2 : ¬ (2 : Int) ≠ 2 := by decide
  simp only [f_is_part, s_is_part, h2]
  cases p with
  | keep n =>
    simp only [encP, szP] at *
    simp [pOk]
    by_cases h1 : 1 ≤ n
    · have h1' : (1 : Int) ≤ n := by omega
      simp [h1, h1']; try omega
    · have h1' : ¬ (1 : Int) ≤ n := by omega
      simp [h1, h1']; try omega
  | put s =>
    simp only [encP, szP] at *
    have l1 : s.length ≤ line := by omega
    have q := f_is_signs_eq s h
    simp [dIn, inL, flD, q, pOk]
    generalize (s.all fun c => decide (c ∈ SG)) = b
    cases b
    · simp
    · simp [l1]
      by_cases h1 : 1 ≤ s.length
      · have h1' : (1 : Int) ≤ s.length := by omega
        simp [h1, h1']; try omega
      · have h1' : ¬ (1 : Int) ≤ s.length := by omega
        simp [h1, h1']
  | drop s =>
    simp only [encP, szP] at *
    have l1 : s.length ≤ line := by omega
    have q := f_is_signs_eq s h
    simp [dIn, inL, flD, q, pOk]
    generalize (s.all fun c => decide (c ∈ SG)) = b
    cases b
    · simp
    · simp [l1]
      by_cases h1 : 1 ≤ s.length
      · have h1' : (1 : Int) ≤ s.length := by omega
        simp [h1, h1']; try omega
      · have h1' : ¬ (1 : Int) ≤ s.length := by omega
        simp [h1, h1']
theorem f_is_change_eq (c : List Pt) (h : c.length ≤ 100000) (hp : ∀ p ∈ c, szP 100000 p) : f_is_change [encC c] = .ok (.bl (cOk c)) := by
  have lv := line_v
  have h2 : startE N_is_change [encC c] = [some (encC c), none] := rfl
  have l1 : c.length ≤ line := by omega
  have k := lcF_map (tgt := tsN 1) (tst := tTrue) (elt := eCall f_is_part (aCons (eVar 1) aNil)) (env := [some (encC c), none]) encP (fun p => D.bl (pOk p)) c (fun p hc => ⟨_, rfl, rfl, by simp [f_is_part_eq p (hp p hc)]⟩)
  have q := dAll_map pOk c
  simp only [f_is_change, s_is_change, h2]
  simp only [encC] at k ⊢
  by_cases h12 : c.length ≤ 12
  · have : (c.length : Int) ≤ 12 := by omega
    simp [-lcF, k, q, l1, cOk, h12, this]
  · have : ¬ (c.length : Int) ≤ 12 := by omega
    simp [-lcF, l1, cOk, h12, this]
/-! ### figures -/
def FG : Tx := ['0','1','2','3','4','5','6','7','8','9']
def dg (n : Nat) : Tx := if n < 10 then [Char.ofNat (48 + n)] else [Char.ofNat (48 + n / 10), Char.ofNat (48 + n % 10)]
theorem strI_dg : ∀ n < 100, strI ((n : Nat) : Int) = dg n := by decide +kernel
def vl : Tx → Nat
  | [a] => a.toNat - 48
  | [a, b] => 10 * (a.toNat - 48) + (b.toNat - 48)
  | _ => 0
theorem int1 : ∀ a ∈ FG, PySem.intText? (mkS [a]) = some ((vl [a] : Nat) : Int) := by decide +kernel
theorem int2 : ∀ a ∈ FG, ∀ b ∈ FG, PySem.intText? (mkS [a, b]) = some ((vl [a, b] : Nat) : Int) := by decide +kernel
theorem dg_all : ∀ n < 100, (dg n).all (fun c => decide (c ∈ FG)) = true ∧ 1 ≤ (dg n).length ∧ (dg n).length ≤ 2 ∧ vl (dg n) = n := by decide +kernel
/-! ### texts -/
def pT : Pt → Tx
  | .keep n => '=' :: dg n
  | .put s => '+' :: s
  | .drop s => '-' :: s
def cT (c : List Pt) : Tx := joinC ['/'] (c.map pT)
def rT (rs : List (List Pt)) : Tx := rs.flatMap fun c => cT c ++ ['\n']
theorem sum_le' {α : Type} (f : α → Nat) (m : Nat) : ∀ l : List α, (∀ x ∈ l, f x ≤ m) → (l.map f).sum ≤ l.length * m
  | [], _ => by simp
  | x :: l, h => by
    have := sum_le' f m l fun y hy => h y (List.mem_cons_of_mem _ hy)
    have := h x (by simp)
    simp only [List.map_cons, List.sum_cons, List.length_cons, Nat.succ_mul]
    omega
theorem pT_len (p : Pt) (h : szP 99 p) : (pT p).length ≤ 100 := by
  cases p with
  | keep n => have := (dg_all n (by simp only [szP] at h; omega)).2.2.1; simp only [pT, List.length_cons]; omega
  | put s => simp only [szP] at h; simp only [pT, List.length_cons]; omega
  | drop s => simp only [szP] at h; simp only [pT, List.length_cons]; omega
theorem f_change_text_eq (c : List Pt) (h : c.length ≤ 1000) (hp : ∀ p ∈ c, szP 99 p) : f_change_text [encC c] = .ok (.str (cT c)) := by
  have lv := line_v
  have h2 : startE N_change_text [encC c] = [some (encC c), none, none] := rfl
  have l1 : c.length ≤ line := by omega
  have k := lcF_map (tgt := tsT [1, 2]) (tst := tTrue) (elt := eOp dAdd (eOp (dGetW "HEADS" [(['k', 'e', 'e', 'p'], ['=']), (['p', 'u', 't'], ['+']), (['d', 'r', 'o', 'p'], ['-'])]) (eFn "HEADS") (eVar 1)) (eCall dStrOf (aCons (eVar 2) aNil))) (env := [some (encC c), none, none]) encP (fun p => D.str (pT p)) c (fun p hc => by
    have hz := hp p hc
    cases p with
    | keep n =>
      simp only [szP] at hz
      have q1 := strI_dg n (by omega)
      have q3 := (dg_all n (by omega)).2.2.1
      have q2 : 1 + (dg n).length ≤ line := by omega
      exact ⟨_, rfl, rfl, by simp [encP, dGetW, lkW, dStrOf, q1, q2, pT, show n < 1000000 by omega]⟩
    | put s =>
      simp only [szP] at hz
      have q2 : 1 + s.length ≤ line := by omega
      exact ⟨_, rfl, rfl, by simp [encP, dGetW, lkW, dStrOf, q2, pT]⟩
    | drop s =>
      simp only [szP] at hz
      have q2 : 1 + s.length ≤ line := by omega
      exact ⟨_, rfl, rfl, by simp [encP, dGetW, lkW, dStrOf, q2, pT]⟩)
  have j := strsOf_map pT c
  have s1 := sum_le' (fun p => (pT p).length) 100 c (fun p hc => pT_len p (hp p hc))
  have s2 : (c.map fun p => (pT p).length).sum + c.length ≤ line := by omega
  simp only [f_change_text, s_change_text, h2]
  simp only [encC] at k ⊢
  simp [-lcF, k, l1, dJoin, j, Function.comp_def, s2, cT]
/-! ### cut -/
theorem splA_run (c : Char) : ∀ (p acc r : Tx), c ∉ p → splA c acc (p ++ c :: r) = (acc ++ p) :: splA c [] r
  | [], acc, r, _ => by simp [splA]
  | x :: p, acc, r, h => by
    simp only [List.mem_cons, not_or] at h
    have hx : ¬ x = c := fun q => h.1 q.symm
    rw [List.cons_append, splA, if_neg hx, splA_run c p _ r h.2]
    simp
theorem splA_end (c : Char) : ∀ (p acc : Tx), c ∉ p → splA c acc p = [acc ++ p]
  | [], acc, _ => by simp [splA]
  | x :: p, acc, h => by
    simp only [List.mem_cons, not_or] at h
    have hx : ¬ x = c := fun q => h.1 q.symm
    rw [splA, if_neg hx, splA_end c p _ h.2]
    simp
theorem splC_join (c : Char) : ∀ (ps : List Tx), ps ≠ [] → (∀ p ∈ ps, c ∉ p) → splC c (joinC [c] ps) = ps
  | [], h, _ => absurd rfl h
  | [p], _, h => by
    unfold splC joinC
    rw [splA_end c p _ (h p (by simp))]; rfl
  | p :: q :: r, _, h => by
    have ih := splC_join c (q :: r) (by simp) fun z hz => h z (List.mem_cons_of_mem _ hz)
    unfold splC at ih ⊢
    rw [joinC, List.singleton_append, splA_run c p _ _ (h p (by simp)), ih]; rfl
theorem splC_lines (c : Char) : ∀ (ps : List Tx), (∀ p ∈ ps, c ∉ p) → splC c (ps.flatMap fun p => p ++ [c]) = ps ++ [[]]
  | [], _ => rfl
  | p :: r, h => by
    have ih := splC_lines c r fun z hz => h z (List.mem_cons_of_mem _ hz)
    unfold splC at ih ⊢
    rw [List.flatMap_cons, List.append_assoc, List.singleton_append, splA_run c p _ _ (h p (by simp)), ih]; rfl
theorem splA_join (c : Char) : ∀ (s acc : Tx), joinC [c] (splA c acc s) = acc ++ s ∧ splA c acc s ≠ [] ∧ ∀ p ∈ splA c acc s, c ∉ acc → c ∉ p
  | [], acc => by simp [splA, joinC]
  | x :: s, acc => by
    by_cases hx : x = c
    · subst hx
      obtain ⟨h1, h2, h3⟩ := splA_join x s []
      rw [splA, if_pos rfl]
      refine ⟨?_, by simp, fun p hp ha => ?_⟩
      · cases hl : splA x [] s with
        | nil => exact absurd hl h2
        | cons a l => rw [hl] at h1; rw [joinC, h1]; simp
      · rcases List.mem_cons.mp hp with q | q
        · rw [q]; exact ha
        · exact h3 p q (by simp)
    · obtain ⟨h1, h2, h3⟩ := splA_join c s (acc ++ [x])
      rw [splA, if_neg hx]
      refine ⟨by rw [h1]; simp, h2, fun p hp ha => h3 p hp ?_⟩
      simp only [List.mem_append, List.mem_singleton, not_or]
      exact ⟨ha, fun q => hx q.symm⟩
/-! ### a part -/
theorem f_part_in_ok (p : Pt) (h : szP 99 p) : f_part_in [.str (pT p)] = .ok (encP p) := by
  have lv := line_v
  have h2 : startE N_part_in [.str (pT p)] = [some (.str (pT p)), none, none] := rfl
  simp only [f_part_in, s_part_in, h2]
  have c1 : ∀ (x : Char) (r : Tx), cutL (x :: r) none (some 1) = [x] := fun x r => by have := cutL_take (x :: r) 1; simpa using this
  have c2 : ∀ (x : Char) (r : Tx), cutL (x :: r) (some 1) none = r := fun x r => by have := cutL_drop (x :: r) 1; simpa using this
  cases p with
  | put s =>
    simp only [szP] at h
    have l1 : s.length + 1 ≤ line := by omega
    simp [pT, c1, c2, dNotInW, dGetW, lkW, l1, encP]
  | drop s =>
    simp only [szP] at h
    have l1 : s.length + 1 ≤ line := by omega
    simp [pT, c1, c2, dNotInW, dGetW, lkW, l1, encP]
  | keep n =>
    simp only [szP] at h
    obtain ⟨d1, d2, d3, d4⟩ := dg_all n (by omega)
    have l1 : (dg n).length + 1 ≤ line := by omega
    have l2 : (dg n).length ≤ line := by omega
    have k := lcF_map (tgt := tsN 2) (tst := tTrue) (elt := eCm dIn (eVar 2) (eStr "0123456789")) (env := [some (.str ('=' :: dg n)), some (.str ['k','e','e','p']), none]) (fun c => D.str [c]) (fun c => D.bl (decide (c ∈ FG))) (dg n) (fun c _ => ⟨_, rfl, rfl, by simp [dIn, FG]⟩)
    have q := dAll_map (fun c => decide (c ∈ FG)) (dg n)
    rw [d1] at q
    have i1 : PySem.intText? (mkS (dg n)) = some (n : Int) := by
      generalize dg n = s at *
      match s, d2, d3 with
      | [a], _, _ => rw [int1 a (by simpa using d1), d4]
      | [a, b], _, _ => simp only [List.all_cons, List.all_nil, Bool.and_true, Bool.and_eq_true, decide_eq_true_eq] at d1; rw [int2 a d1.1 b d1.2, d4]
    have l3 : (2 : Int) ≤ (dg n).length + 1 := by omega
    have l4 : ((dg n).length : Int) + 1 ≤ 3 := by omega
    have l5 : (dg n).length ≤ 640 := by omega
    simp [-lcF, pT, c1, c2, dNotInW, dGetW, lkW, l1, l2, l3, l4, l5, k, q, i1, dIntT, encP]
end G81

namespace G81
open PySem M
/-! ### what is written is read back -/
theorem pOk_sz {p : Pt} (h : pOk p = true) : szP 99 p := by
  cases p with
  | keep n => simp only [pOk, decide_eq_true_eq] at h; exact h.2
  | put s => simp only [pOk, Bool.and_eq_true, decide_eq_true_eq] at h; show s.length ≤ 99; omega
  | drop s => simp only [pOk, Bool.and_eq_true, decide_eq_true_eq] at h; show s.length ≤ 99; omega
theorem cOk_len {c : List Pt} (h : cOk c = true) : c.length ≤ 12 := by simp only [cOk, Bool.and_eq_true, decide_eq_true_eq] at h; exact h.1
theorem cOk_each {c : List Pt} (h : cOk c = true) : ∀ p ∈ c, pOk p = true := by
  simp only [cOk, Bool.and_eq_true, List.all_eq_true] at h; exact h.2
theorem szP_mono {m n : Nat} (h : m ≤ n) : ∀ {p : Pt}, szP m p → szP n p
  | .keep _, q => Nat.le_trans (show _ ≤ m from q) h
  | .put _, q => Nat.le_trans (show _ ≤ m from q) h
  | .drop _, q => Nat.le_trans (show _ ≤ m from q) h
/-- what stands in a part's text -/
theorem pT_ch {p : Pt} (h : pOk p = true) {x : Char} (hx : x ∈ pT p) : x ∈ SG ∨ x ∈ FG ∨ x = '=' ∨ x = '+' ∨ x = '-' := by
  cases p with
  | keep n =>
    simp only [pOk, decide_eq_true_eq] at h
    have d := (dg_all n (by omega)).1
    rcases List.mem_cons.mp hx with q | q
    · exact .inr (.inr (.inl q))
    · rw [List.all_eq_true] at d
      exact .inr (.inl (by simpa using d x q))
  | put s =>
    simp only [pOk, Bool.and_eq_true, List.all_eq_true] at h
    rcases List.mem_cons.mp hx with q | q
    · exact .inr (.inr (.inr (.inl q)))
    · exact .inl (by simpa using h.1 x q)
  | drop s =>
    simp only [pOk, Bool.and_eq_true, List.all_eq_true] at h
    rcases List.mem_cons.mp hx with q | q
    · exact .inr (.inr (.inr (.inr q)))
    · exact .inl (by simpa using h.1 x q)
theorem pT_no (z : Char) (h1 : z ∉ SG) (h2 : z ∉ FG) (h3 : z ≠ '=') (h4 : z ≠ '+') (h5 : z ≠ '-') {p : Pt} (h : pOk p = true) : z ∉ pT p := fun q => by
  rcases pT_ch h q with q | q | q | q | q
  · exact h1 q
  · exact h2 q
  · exact h3 q
  · exact h4 q
  · exact h5 q
theorem pT_ne (p : Pt) : pT p ≠ [] := by cases p <;> simp [pT]
theorem mem_joinC {x : Char} {S : Tx} : ∀ {ps : List Tx}, x ∈ joinC S ps → x ∈ S ∨ ∃ p ∈ ps, x ∈ p
  | [], h => by simp [joinC] at h
  | [p], h => .inr ⟨p, by simp, h⟩
  | p :: q :: r, h => by
    rw [joinC, List.mem_append, List.mem_append] at h
    rcases h with h | h | h
    · exact .inr ⟨p, by simp, h⟩
    · exact .inl h
    · rcases mem_joinC h with h | ⟨z, hz, h⟩
      · exact .inl h
      · exact .inr ⟨z, List.mem_cons_of_mem _ hz, h⟩
theorem cT_no (z : Char) (h0 : z ≠ '/') (h1 : z ∉ SG) (h2 : z ∉ FG) (h3 : z ≠ '=') (h4 : z ≠ '+') (h5 : z ≠ '-') {c : List Pt} (h : cOk c = true) : z ∉ cT c := fun q => by
  rcases mem_joinC q with q | ⟨y, hy, q⟩
  · simp at q; exact h0 q
  · obtain ⟨p, hp, rfl⟩ := List.mem_map.mp hy
    exact pT_no z h1 h2 h3 h4 h5 (cOk_each h p hp) q
theorem cT_nl {c : List Pt} (h : cOk c = true) : '\n' ∉ cT c := cT_no _ (by decide) (by decide) (by decide) (by decide) (by decide) (by decide) h
theorem joinC_len (S : Tx) : ∀ ps : List Tx, (joinC S ps).length ≤ (ps.map (·.length)).sum + ps.length * S.length
  | [] => by simp [joinC]
  | [p] => by simp [joinC]
  | p :: q :: r => by
    have := joinC_len S (q :: r)
    simp only [joinC, List.length_append, List.map_cons, List.sum_cons, List.length_cons, Nat.succ_mul] at this ⊢
    omega
theorem cT_len {c : List Pt} (h : ∀ p ∈ c, szP 99 p) : (cT c).length ≤ 101 * c.length := by
  have h1 := joinC_len ['/'] (c.map pT)
  have h2 := sum_le' (fun p => (pT p).length) 100 c (fun p hc => pT_len p (h p hc))
  simp only [List.map_map, Function.comp_def, List.length_map, List.length_cons, List.length_nil] at h1
  unfold cT
  omega
theorem splS_C (c : Char) (s : Tx) : splS [c] 0 [] s = splC c s := splS_one c s []
theorem f_read_change_ok (c : List Pt) (h : cOk c = true) : f_read_change [.str (cT c)] = .ok (encC c) := by
  have lv := line_v
  have hl := cOk_len h
  have he := cOk_each h
  have hz : ∀ p ∈ c, szP 99 p := fun p hp => pOk_sz (he p hp)
  have h2 : startE N_read_change [.str (cT c)] = [some (.str (cT c)), none, none] := rfl
  have i1 := f_is_change_eq c (by omega) (fun p hp => szP_mono (by decide) (hz p hp))
  have i2 := f_change_text_eq c (by omega) hz
  rw [h] at i1
  have tl := cT_len hz
  cases c with
  | nil =>
    have e : cT [] = [] := rfl
    rw [e] at i2 h2 ⊢
    simp only [encC, List.map_nil] at i1 i2 ⊢
    simp only [f_read_change, s_read_change, h2]
    simp [i1, i2]
  | cons p r =>
    have hne : cT (p :: r) ≠ [] := by
      intro q
      unfold cT at q
      cases r with
      | nil => simp only [List.map_cons, List.map_nil, joinC] at q; exact pT_ne p q
      | cons p2 r => simp [joinC] at q
    have sp : splC '/' (cT (p :: r)) = (p :: r).map pT := splC_join '/' _ (by simp) fun x hx => by
      obtain ⟨y, hy, rfl⟩ := List.mem_map.mp hx
      exact pT_no '/' (by decide) (by decide) (by decide) (by decide) (by decide) (he y hy)
    have k := lcF_map (tgt := tsN 2) (tst := tTrue) (elt := eCall f_part_in (aCons (eVar 2) aNil)) (env := [some (.str (cT (p :: r))), none, none]) (fun q => D.str (pT q)) encP (p :: r) (fun q hq => ⟨_, rfl, rfl, by simp [f_part_in_ok q (hz q hq)]⟩)
    have l1 : (cT (p :: r)).length + 2 ≤ line := by omega
    have l2 : (p :: r).length ≤ line := by omega
    have e2 : (splC '/' (cT (p :: r))).map D.str = (p :: r).map fun q => D.str (pT q) := by rw [sp, List.map_map]; rfl
    simp only [f_read_change, s_read_change, h2]
    generalize cT (p :: r) = t at *
    generalize p :: r = c at *
    simp only [encC] at *
    simp [-lcF, hne, dSplit, splS_C, l1, l2, e2, k, i1, i2]
theorem f_rows_text_eq (rs : List (List Pt)) (h : rs.length ≤ 100) (hr : ∀ c ∈ rs, c.length ≤ 1000 ∧ ∀ p ∈ c, szP 99 p) : f_rows_text [.lst (rs.map encC)] = .ok (.str (rT rs)) := by
  have lv := line_v
  have h2 : startE N_rows_text [.lst (rs.map encC)] = [some (.lst (rs.map encC)), none] := rfl
  have k := lcF_map (tgt := tsN 1) (tst := tTrue) (elt := eOp dAdd (eCall f_change_text (aCons (eVar 1) aNil)) (eStr "\n")) (env := [some (.lst (rs.map encC)), none]) encC (fun c => D.str (cT c ++ ['\n'])) rs (fun c hc => by
    have hz := hr c hc
    have tl := cT_len hz.2
    have l1 : (cT c).length + 1 ≤ line := by omega
    exact ⟨_, rfl, rfl, by simp [f_change_text_eq c hz.1 hz.2, l1]⟩)
  have l1 : rs.length ≤ line := by omega
  have j := strsOf_map (fun c => cT c ++ ['\n']) rs
  have s1 := sum_le' (fun c => (cT c ++ ['\n']).length) 101001 rs (fun c hc => by
    have hz := hr c hc
    have tl := cT_len hz.2
    simp only [List.length_append, List.length_cons, List.length_nil]
    omega)
  have s2 : (rs.map fun c => (cT c).length + 1).sum ≤ line := by
    simp only [List.length_append, List.length_cons, List.length_nil, Nat.zero_add] at s1
    omega
  have e : rT rs = (rs.map fun c => cT c ++ ['\n']).flatten := by rw [rT, List.flatMap]
  rw [e]
  simp only [f_rows_text, s_rows_text, h2]
  simp [-lcF, k, l1, dJoin, j, Function.comp_def, s2, joinC_nil]
theorem cutL_last {α : Type} (xs : List α) (x : α) : cutL (xs ++ [x]) none (some (-1)) = xs := by
  unfold cutL
  have e1 : HT.sIx (xs ++ [x]).length 0 none = 0 := by rw [HT.sIx_none]
  have e2 : HT.sIx (xs ++ [x]).length (xs ++ [x]).length (some (-1)) = xs.length := by
    unfold HT.sIx
    simp
    try omega
  rw [e1, e2]
  simp
theorem rT_len (rs : List (List Pt)) (hr : ∀ c ∈ rs, c.length ≤ 1000 ∧ ∀ p ∈ c, szP 99 p) : (rT rs).length ≤ 101001 * rs.length := by
  induction rs with
  | nil => simp [rT]
  | cons c rs ih =>
    have := ih fun z hz => hr z (List.mem_cons_of_mem _ hz)
    have hz := hr c (by simp)
    have tl := cT_len hz.2
    simp only [rT, List.flatMap_cons, List.length_append, List.length_cons, List.length_nil] at this ⊢
    omega
theorem lines_rT (rs : List (List Pt)) (h : ∀ c ∈ rs, cOk c = true) : splC '\n' (rT rs) = rs.map cT ++ [[]] := by
  have := splC_lines '\n' (rs.map cT) fun p hp => by
    obtain ⟨c, hc, rfl⟩ := List.mem_map.mp hp
    exact cT_nl (h c hc)
  rw [List.flatMap_map] at this
  exact this
theorem f_read_rows_ok (rs : List (List Pt)) (h : rs.length ≤ 100) (hr : ∀ c ∈ rs, cOk c = true) : f_read_rows [.str (rT rs)] = .ok (.lst (rs.map encC)) := by
  have lv := line_v
  have hz : ∀ c ∈ rs, c.length ≤ 1000 ∧ ∀ p ∈ c, szP 99 p := fun c hc => ⟨by have := cOk_len (hr c hc); omega, fun p hp => pOk_sz (cOk_each (hr c hc) p hp)⟩
  have h2 : startE N_read_rows [.str (rT rs)] = [some (.str (rT rs)), none, none] := rfl
  have k := lcF_map (tgt := tsN 2) (tst := tTrue) (elt := eCall f_read_change (aCons (eVar 2) aNil)) (env := [some (.str (rT rs)), none, none]) (fun c => D.str (cT c)) encC rs (fun c hc => ⟨_, rfl, rfl, by simp [f_read_change_ok c (hr c hc)]⟩)
  have rl := rT_len rs hz
  have l1 : (rT rs).length + 2 ≤ line := by omega
  have l2 : rs.length ≤ line := by omega
  have i2 := f_rows_text_eq rs h hz
  have sp := lines_rT rs hr
  have e2 : cutL ((splC '\n' (rT rs)).map D.str) none (some (-1)) = rs.map fun c => D.str (cT c) := by
    rw [sp, List.map_append, List.map_cons, List.map_nil, cutL_last, List.map_map]; rfl
  simp only [f_read_rows, s_read_rows, h2]
  generalize rT rs = t at *
  simp [-lcF, dSplit, splS_C, l1, l2, e2, k, i2]
end G81

namespace G81
open PySem M
/-! ### owned changes written, and read -/
def LT : Tx := ['a','b','c','d','e','f','g','h','i','j','k','l','m','n','o','p','q','r','s','t','u','v','w','x','y','z']
def nOk (o : Tx) : Bool := decide (1 ≤ o.length ∧ o.length ≤ 6) && o.all fun c => decide (c ∈ LT)
def rOk (r : Ow) : Bool := nOk r.1 && cOk r.2
def oT (r : Ow) : Tx := r.1 ++ (':' :: ' ' :: cT r.2)
def owT (rs : List Ow) : Tx := rs.flatMap fun r => oT r ++ ['\n']
theorem f_is_own_eq (o : Tx) (h : o.length ≤ 100000) : f_is_own [.str o] = .ok (.bl (nOk o)) := by
  have lv := line_v
  have h2 : startE N_is_own [.str o] = [some (.str o), none] := rfl
  have l1 : o.length ≤ line := by omega
  have k := lcF_map (tgt := tsN 1) (tst := tTrue) (elt := eCm dIn (eVar 1) (eStr "abcdefghijklmnopqrstuvwxyz")) (env := [some (.str o), none]) (fun c => D.str [c]) (fun c => D.bl (decide (c ∈ LT))) o (fun c _ => ⟨_, rfl, rfl, by simp [dIn, LT]⟩)
  have q := dAll_map (fun c => decide (c ∈ LT)) o
  simp only [f_is_own, s_is_own, h2]
  unfold nOk
  generalize (o.all fun c => decide (c ∈ LT)) = b at *
  by_cases h1 : 1 ≤ o.length
  · have h1' : (1 : Int) ≤ o.length := by omega
    by_cases h6 : o.length ≤ 6
    · have h6' : (o.length : Int) ≤ 6 := by omega
      simp [-lcF, k, q, l1, h1, h1', h6, h6']
    · have h6' : ¬ (o.length : Int) ≤ 6 := by omega
      simp [-lcF, l1, h1, h1', h6, h6']
  · have h1' : ¬ (1 : Int) ≤ o.length := by omega
    simp [-lcF, l1, h1, h1']
theorem rOk_n {r : Ow} (h : rOk r = true) : nOk r.1 = true := by simp only [rOk, Bool.and_eq_true] at h; exact h.1
theorem rOk_c {r : Ow} (h : rOk r = true) : cOk r.2 = true := by simp only [rOk, Bool.and_eq_true] at h; exact h.2
theorem nOk_len {o : Tx} (h : nOk o = true) : o.length ≤ 6 := by simp only [nOk, Bool.and_eq_true, decide_eq_true_eq] at h; exact h.1.2
theorem nOk_ch {o : Tx} (h : nOk o = true) {x : Char} (hx : x ∈ o) : x ∈ LT := by
  simp only [nOk, Bool.and_eq_true, List.all_eq_true] at h
  simpa using h.2 x hx
theorem oT_len {r : Ow} (h : rOk r = true) : (oT r).length ≤ 1300 := by
  have := nOk_len (rOk_n h)
  have := cT_len (c := r.2) fun q hq => pOk_sz (cOk_each (rOk_c h) q hq)
  have := cOk_len (rOk_c h)
  simp only [oT, List.length_append, List.length_cons]
  omega
theorem oT_nl {r : Ow} (h : rOk r = true) : '\n' ∉ oT r := fun q => by
  simp only [oT, List.mem_append, List.mem_cons] at q
  rcases q with q | q | q | q
  · exact absurd (nOk_ch (rOk_n h) q) (by decide)
  · exact absurd q (by decide)
  · exact absurd q (by decide)
  · exact cT_nl (rOk_c h) q
theorem f_owned_text_eq (rs : List Ow) (h : rs.length ≤ 100) (hr : ∀ r ∈ rs, rOk r = true) : f_owned_text [.lst (rs.map encO)] = .ok (.str (owT rs)) := by
  have lv := line_v
  have h2 : startE N_owned_text [.lst (rs.map encO)] = [some (.lst (rs.map encO)), none, none] := rfl
  have k := lcF_map (tgt := tsT [1, 2]) (tst := tTrue) (elt := eOp dAdd (eOp dAdd (eOp dAdd (eVar 1) (eStr ": ")) (eCall f_change_text (aCons (eVar 2) aNil))) (eStr "\n")) (env := [some (.lst (rs.map encO)), none, none]) encO (fun r => D.str (oT r ++ ['\n'])) rs (fun r hc => by
    have ok := hr r hc
    have e1 := f_change_text_eq r.2 (by have := cOk_len (rOk_c ok); omega) (fun q hq => pOk_sz (cOk_each (rOk_c ok) q hq))
    have l0 := oT_len ok
    simp only [oT, List.length_append, List.length_cons] at l0
    have l1 : r.1.length + 2 ≤ line := by omega
    have l2 : r.1.length + 2 + (cT r.2).length ≤ line := by omega
    have l3 : r.1.length + 2 + (cT r.2).length + 1 ≤ line := by omega
    have l4 : r.1.length + ((cT r.2).length + 1 + 1) + 1 ≤ line := by omega
    exact ⟨_, rfl, rfl, by simp [e1, oT, l1, l2, l3, l4]⟩)
  have l1 : rs.length ≤ line := by omega
  have j := strsOf_map (fun r => oT r ++ ['\n']) rs
  have s1 := sum_le' (fun r => (oT r ++ ['\n']).length) 1301 rs (fun r hc => by
    have := oT_len (hr r hc)
    simp only [List.length_append, List.length_cons, List.length_nil]
    omega)
  have s2 : (rs.map fun r => (oT r).length + 1).sum ≤ line := by
    simp only [List.length_append, List.length_cons, List.length_nil, Nat.zero_add] at s1
    omega
  have e : owT rs = (rs.map fun r => oT r ++ ['\n']).flatten := by rw [owT, List.flatMap]
  rw [e]
  simp only [f_owned_text, s_owned_text, h2]
  simp [-lcF, k, l1, dJoin, j, Function.comp_def, s2, joinC_nil]
theorem owT_len (rs : List Ow) (hr : ∀ r ∈ rs, rOk r = true) : (owT rs).length ≤ 1301 * rs.length := by
  induction rs with
  | nil => simp [owT]
  | cons r rs ih =>
    have := ih fun z hz => hr z (List.mem_cons_of_mem _ hz)
    have tl := oT_len (hr r (by simp))
    simp only [owT, List.flatMap_cons, List.length_append, List.length_cons, List.length_nil] at this ⊢
    omega
theorem lines_owT (rs : List Ow) (h : ∀ r ∈ rs, rOk r = true) : splC '\n' (owT rs) = rs.map oT ++ [[]] := by
  have := splC_lines '\n' (rs.map oT) fun p hp => by
    obtain ⟨c, hc, rfl⟩ := List.mem_map.mp hp
    exact oT_nl (h c hc)
  rw [List.flatMap_map] at this
  exact this
theorem spl2_run : ∀ (p acc r : Tx), ':' ∉ p → splS [':', ' '] 0 acc (p ++ ':' :: ' ' :: r) = (acc ++ p) :: splS [':', ' '] 0 [] r
  | [], acc, r, _ => by simp [splS]
  | x :: p, acc, r, h => by
    simp only [List.mem_cons, not_or] at h
    have hx : ¬ x = ':' := fun q => h.1 q.symm
    rw [List.cons_append, splS, if_neg (by
      intro q
      simp only [List.length_cons, List.length_nil, List.take_succ_cons] at q
      exact hx (List.cons.inj q).1), spl2_run p _ r h.2]
    simp
theorem spl2_end : ∀ (p acc : Tx), ':' ∉ p → splS [':', ' '] 0 acc p = [acc ++ p]
  | [], acc, _ => by simp [splS]
  | x :: p, acc, h => by
    simp only [List.mem_cons, not_or] at h
    have hx : ¬ x = ':' := fun q => h.1 q.symm
    rw [splS, if_neg (by
      intro q
      simp only [List.length_cons, List.length_nil, List.take_succ_cons] at q
      exact hx (List.cons.inj q).1), spl2_end p _ h.2]
    simp
theorem nOk_colon {o : Tx} (h : nOk o = true) : ':' ∉ o := fun q => absurd (nOk_ch h q) (by decide)
theorem spl2_oT {r : Ow} (h : rOk r = true) : splS [':', ' '] 0 [] (oT r) = [r.1, cT r.2] := by
  rw [oT, spl2_run _ _ _ (nOk_colon (rOk_n h)), spl2_end _ _ (cT_no ':' (by decide) (by decide) (by decide) (by decide) (by decide) (by decide) (rOk_c h))]
  rfl
theorem f_read_owned_ok (rs : List Ow) (h : rs.length ≤ 100) (hr : ∀ r ∈ rs, rOk r = true) : f_read_owned [.str (owT rs)] = .ok (.lst (rs.map encO)) := by
  have lv := line_v
  have h2 : startE N_read_owned [.str (owT rs)] = [some (.str (owT rs)), none, none, none] := rfl
  have tl := owT_len rs hr
  have l1 : (owT rs).length + 2 ≤ line := by omega
  have sp := lines_owT rs hr
  have e2 : cutL ((splC '\n' (owT rs)).map D.str) none (some (-1)) = rs.map fun r => D.str (oT r) := by
    rw [sp, List.map_append, List.map_cons, List.map_nil, cutL_last, List.map_map]; rfl
  have i2 := f_owned_text_eq rs h hr
  have i3 := (en_O.lst).dNe (by decide) rs rs
  obtain ⟨e', h1, x, y, rfl⟩ := forF_all (tgt := tsN 2) (fb := b_read_owned_0) (fun r : Ow => D.str (oT r)) rs (fun pre e => ∃ x y, e = [some (.str (owT rs)), some (.lst (pre.map encO)), x, y]) [some (.str (owT rs)), some (.lst (([] : List Ow).map encO)), none, none] ⟨none, none, rfl⟩ (by
    rintro pre r post e hp ⟨x, y, rfl⟩
    have ok := hr r (by rw [hp]; simp)
    have l0 := oT_len ok
    have l2 : (oT r).length + 2 ≤ line := by omega
    have s2 := spl2_oT ok
    have r1 := f_read_change_ok r.2 (rOk_c ok)
    have n1 := f_is_own_eq r.1 (by have := nOk_len (rOk_n ok); omega)
    rw [rOk_n ok] at n1
    have pl : pre.length < line := by have := congrArg List.length hp; simp at this; omega
    refine ⟨_, ?_, some (.str (oT r)), some (.lst [.str r.1, .str (cT r.2)]), rfl⟩
    simp [b_read_owned_0, dSplit, l2, s2, n1, r1, encO, pl])
  simp only [List.map_nil] at h1
  simp only [f_read_owned, s_read_owned, h2]
  generalize owT rs = t at *
  simp [dSplit, splS_C, l1, e2, h1, i2]
end G81

namespace G81.W94
open PySem M
theorem fstO_oT (o r : Tx) (h : ':' ∉ o) : fstO [':', ' '] (o ++ (':' :: ' ' :: r)) = some o.length := by
  unfold fstO
  rw [List.find?_range_eq_some]
  refine ⟨?_, ?_, ?_⟩
  · simp
  · simp; omega
  · intro j hj
    simp only [Bool.not_eq_true', decide_eq_false_iff_not]
    intro q
    have e1 : ((o ++ (':' :: ' ' :: r)).drop j)[0]? = some ':' := by
      have := congrArg (fun l : Tx => l[0]?) q
      simp only [List.length_cons, List.length_nil] at this
      rw [List.getElem?_take_of_lt (by decide)] at this
      simpa using this
    rw [List.getElem?_drop, List.getElem?_append_left (by omega)] at e1
    exact h (List.mem_of_getElem? e1)
def szO (r : Ow) : Prop := r.2.length ≤ 100000 ∧ ∀ p ∈ r.2, szP 100000 p
theorem szO_of {r : Ow} (h1 : r.2.length ≤ 100000) (h2 : (uns r.2).length ≤ 100000) : szO r := by
  refine ⟨h1, fun p hp => ?_⟩
  obtain ⟨a, b, e⟩ := List.append_of_mem hp
  have := uns_le e
  cases p with
  | keep n => simp only [unP, List.length_replicate] at this; show n ≤ 100000; omega
  | put s => simp only [unP, List.length_map] at this; show s.length ≤ 100000; omega
  | drop s => simp only [unP, List.length_map] at this; show s.length ≤ 100000; omega
def cnd : Ev → R Bool := tCm dNe (eLc [9, 10] (iSeq (eVar 2)) (tsT [9, 10]) (tNotF (tVal (eCall f_is_change (aCons (eVar 10) aNil)))) (eVar 10)) (eLst aNil)
theorem cnd_eq (rs : List Ow) (hl : rs.length ≤ 100000) (hs : ∀ r ∈ rs, szO r) (e0 e1 e3 e4 e5 e6 e7 e8 e9 e10 e11 : Option D) : cnd [e0, e1, some (.lst (rs.map encO)), e3, e4, e5, e6, e7, e8, e9, e10, e11] = .ok (!decide (∀ r ∈ rs, cOk r.2 = true)) := by
  have lv := line_v
  have l1 : rs.length ≤ line := by omega
  have k := lcF_fm (tgt := tsT [9, 10]) (tst := tNotF (tVal (eCall f_is_change (aCons (eVar 10) aNil)))) (elt := eVar 10) (env := [e0, e1, some (.lst (rs.map encO)), e3, e4, e5, e6, e7, e8, none, none, e11]) encO (fun r => !cOk r.2) (fun r => encC r.2) rs (fun r hr => ⟨_, rfl, by simp [f_is_change_eq r.2 (hs r hr).1 (hs r hr).2], fun _ => by simp⟩)
  have q := (en_C.lst).dNe (by decide) ((rs.filter fun r => !cOk r.2).map (·.2)) []
  simp only [List.map_map, Function.comp_def, List.map_nil] at q
  have e : (!decide ((rs.filter fun r => !cOk r.2).map (·.2) = [])) = !decide (∀ r ∈ rs, cOk r.2 = true) := by
    congr 1
    rw [decide_eq_decide, List.map_eq_nil_iff, List.filter_eq_nil_iff]
    simp
  rw [e] at q
  unfold cnd
  simp [-lcF, k, l1, q]
theorem wh (e0 e1 e3 e4 e5 e6 e7 e8 e9 e10 e11 : Option D) : ∀ (n : Nat) (rs : List Ow), rs.length = n → n ≤ 100000 → (∀ r ∈ rs, szO r) →
    ∃ k, sWh cnd b_law_0 [e0, e1, some (.lst (rs.map encO)), e3, e4, e5, e6, e7, e8, e9, e10, e11] = .nx [e0, e1, some (.lst ((rs.take k).map encO)), e3, e4, e5, e6, e7, e8, e9, e10, e11] ∧ ∀ r ∈ rs.take k, cOk r.2 = true := by
  intro n
  induction n with
  | zero =>
    intro rs hn _ hs
    have : rs = [] := List.length_eq_zero_iff.mp hn
    subst this
    exact ⟨0, sWh_false ((cnd_eq [] (by simp) (by simp) ..).trans (by simp)), by simp⟩
  | succ n ih =>
    intro rs hn hl hs
    have c := cnd_eq rs (by omega) hs e0 e1 e3 e4 e5 e6 e7 e8 e9 e10 e11
    by_cases h : ∀ r ∈ rs, cOk r.2 = true
    · refine ⟨rs.length, ?_, ?_⟩
      · rw [List.take_length]
        exact sWh_false (c.trans (by rw [decide_eq_true h]; rfl))
      · rw [List.take_length]; exact h
    · rcases List.eq_nil_or_concat rs with q | ⟨rs', r, q⟩
      · subst q; simp at hn
      · rw [List.concat_eq_append] at q
        have hn' : rs'.length = n := by rw [q] at hn; simp at hn; exact hn
        obtain ⟨k, k1, k2⟩ := ih rs' hn' (by omega) (fun z hz => hs z (by rw [q]; simp [hz]))
        have e2 : cutL ((rs' ++ [r]).map encO) none (some (-1)) = rs'.map encO := by rw [List.map_append]; exact cutL_last _ _
        refine ⟨min k rs'.length, ?_, ?_⟩
        · rw [sWh_true (e2 := [e0, e1, some (.lst (rs'.map encO)), e3, e4, e5, e6, e7, e8, e9, e10, e11]) (c.trans (by simp only [h, decide_false, Bool.not_false])) (by rw [q]; simp only [b_law_0]; simp [-List.map_append, e2]), k1]
          have : rs.take (min k rs'.length) = rs'.take k := by
            rw [q, List.take_append_of_le_length (Nat.min_le_right _ _), ← List.take_take, List.take_length]
          rw [this]
        · have : rs.take (min k rs'.length) = rs'.take k := by
            rw [q, List.take_append_of_le_length (Nat.min_le_right _ _), ← List.take_take, List.take_length]
          rw [this]; exact k2
theorem owT_inj {a b : List Ow} (ha : a.length ≤ 100) (hb : b.length ≤ 100) (ra : ∀ r ∈ a, rOk r = true) (rb : ∀ r ∈ b, rOk r = true) : owT a = owT b ↔ a = b := by
  constructor
  · intro h
    have h1 := f_read_owned_ok a ha ra
    have h2 := f_read_owned_ok b hb rb
    rw [h, h2] at h1
    have h3 : D.lst (b.map encO) = D.lst (a.map encO) := by injection h1
    have e := (en_O.lst).eq b a
    have e2 := (en_O.lst).eq a a
    have e1 : eqD (D.lst (b.map encO)) (D.lst (a.map encO)) = true := by rw [h3, e2]; simp
    rw [e1] at e
    have := of_decide_eq_true e.symm
    exact this.symm
  · exact fun h => by rw [h]
def lnD (r : Ow) : D := .str (cT r.2 ++ ['\n'])
theorem addO_P {P : Ow → Prop} {acc : List Ow} {o : Tx} {w : List Un} (h : ∀ r ∈ acc, P r) (hp : P (o, ou w)) : ∀ r ∈ addO acc o w, P r := by
  unfold addO
  split
  · intro r hr
    rcases List.mem_append.mp hr with q | q
    · exact h r q
    · rw [List.mem_singleton] at q; rw [q]; exact hp
  · exact h
theorem sqS_P {P : Ow → Prop} {acc a : List Ow} {r : Ow} (h : ∀ r ∈ acc, P r) (hp : ∀ w, P (r.1, ou w)) (ha : sqS acc r = some a) : ∀ r ∈ a, P r := by
  unfold sqS at ha
  split at ha
  · split at ha
    · rename_i l _ _
      cases ht : thn (uns l.2) (uns r.2) with
      | none => rw [ht] at ha; cases ha
      | some w =>
        rw [ht] at ha
        simp only [Option.map_some, Option.some.injEq] at ha
        subst ha
        exact addO_P (fun s hs => h s (List.dropLast_subset _ hs)) (hp w)
    · simp only [Option.some.injEq] at ha
      subst ha
      exact addO_P h (hp _)
  · simp only [Option.some.injEq] at ha
    subst ha
    exact addO_P h (hp _)
theorem sqz_P {P : Ow → Prop} : ∀ {rs acc fin : List Ow}, (∀ r ∈ acc, P r) → (∀ r ∈ rs, ∀ w, P (r.1, ou w)) → sqz acc rs = some fin → ∀ r ∈ fin, P r
  | [], acc, fin, h, _, hz => by cases hz; exact h
  | r :: rs, acc, fin, h, ho, hz => by
    rw [sqz] at hz
    cases ha : sqS acc r with
    | none => rw [ha] at hz; cases hz
    | some a =>
      rw [ha] at hz
      exact sqz_P (sqS_P h (ho r (by simp)) ha) (fun s hs => ho s (by simp [hs])) hz
theorem turn (ns : List Int) (h : ns.length ≤ 63) (e1 e2 e3 : Option D) (l : List Ow) (hl : l.length ≤ 20) (hr : ∀ r ∈ l, rOk r = true) (x4 x5 x6 x7 : Option D) :
    ∃ y5 y6 y7, sOf (tsN 4 (.lst (l.map encO)) [some (.scr ns), e1, e2, e3, x4, x5, x6, x7, none, none, none, none]) b_law_6 = .nx [some (.scr ns), e1, e2, e3, some (.lst (l.map encO)), y5, y6, y7, none, none, none, none] := by
  have lv := line_v
  have i1 := f_owned_text_eq l (by omega) hr
  have i2 := f_read_owned_ok l (by omega) hr
  have i3 := (en_O.lst).dNe (by decide) l l
  simp only [decide_true, Bool.not_true] at i3
  have tl := owT_len l hr
  have sp := lines_owT l hr
  have l1 : (owT l).length + 2 ≤ line := by omega
  have l2 : (owT l).length ≤ line := by omega
  have l3 : (splC '\n' (owT l)).length = l.length + 1 := by rw [sp]; simp
  have l4 : (splC '\n' (owT l)).length ≤ line := by omega
  have l5 : l.length ≤ line := by omega
  have e5 : cutL ((splC '\n' (owT l)).map D.str) none (some (-1)) = l.map fun r => D.str (oT r) := by
    rw [sp, List.map_append, List.map_cons, List.map_nil, cutL_last, List.map_map]; rfl
  have hp := dr_lt ns 10 ((l.length : Int) + 1) (by omega)
  have d1 := f_drawn_eq ns h 10 ((l.length : Int) + 1) (by omega)
  generalize dr ns 10 ((l.length : Int) + 1) = p at *
  have t1 : cutL (l.map encO) none (some (p : Int)) = (l.take p).map encO := by rw [cutL_take, List.map_take]
  have t2 : cutL (l.map encO) (some (p : Int)) none = (l.drop p).map encO := by rw [cutL_drop, List.map_drop]
  have i4 := f_owned_text_eq (l.take p) (by rw [List.length_take]; omega) fun r hq => hr r (List.mem_of_mem_take hq)
  have i5 := f_owned_text_eq (l.drop p) (by rw [List.length_drop]; omega) fun r hq => hr r (List.mem_of_mem_drop hq)
  have e6 : owT (l.take p) ++ owT (l.drop p) = owT l := by
    unfold owT; rw [← List.flatMap_append, List.take_append_drop]
  have l6 : (owT (l.take p)).length + (owT (l.drop p)).length ≤ line := by rw [← List.length_append, e6]; exact l2
  -- the bare lines
  have k1 := lcF_map (tgt := tsN 11) (tst := tTrue) (elt := eOp dAdd (eSl (eVar 11) (oSome (eOp dAdd (eMs (fun s d => dIndexT (.str s) d) (eVar 11) (eStr ": ")) (eInt 2))) oNone) (eStr "\n")) (env := [some (.scr ns), e1, e2, e3, some (.lst (l.map encO)), some (.str (owT l)), some (.int p), x7, none, none, none, none]) (fun r => D.str (oT r)) (fun r => D.str (cT r.2 ++ ['\n'])) l (fun r hq => by
    have ok := hr r hq
    have f1 := fstO_oT r.1 (cT r.2) (nOk_colon (rOk_n ok))
    have o1 := oT_len ok
    have q1 : (oT r).length ≤ line := by omega
    have q2 : cutL (oT r) (some ((r.1.length : Int) + 2)) none = cT r.2 := by
      rw [show ((r.1.length : Int) + 2) = ((r.1.length + 2 : Nat) : Int) by omega, cutL_drop, oT, List.drop_append, List.drop_of_length_le (by omega)]
      simp [show r.1.length + 2 - r.1.length = 2 by omega]
    have q3 : (cT r.2).length + 1 ≤ line := by
      simp only [oT, List.length_append, List.length_cons] at o1
      omega
    have f2 : fstO [':', ' '] (oT r) = some r.1.length := f1
    exact ⟨_, rfl, rfl, by simp [dIndexT, f2, q1, q2, q3]⟩)
  have j1 := strsOf_map (fun r : Ow => cT r.2 ++ ['\n']) l
  have s1 := sum_le' (fun r : Ow => (cT r.2 ++ ['\n']).length) 1301 l (fun r hq => by
    have o1 := oT_len (hr r hq)
    simp only [oT, List.length_append, List.length_cons, List.length_nil] at o1 ⊢
    omega)
  have s2 : (l.map fun r : Ow => (cT r.2).length + 1).sum ≤ line := by
    simp only [List.length_append, List.length_cons, List.length_nil, Nat.zero_add] at s1
    omega
  have j2 : (l.map fun r : Ow => cT r.2 ++ ['\n']).flatten = rT (l.map (·.2)) := by
    rw [rT, List.flatMap_map, List.flatMap]
  have k2 := fun x7 => lcF_map (tgt := tsT [9, 10]) (tst := tTrue) (elt := eVar 10) (env := [some (.scr ns), e1, e2, e3, some (.lst (l.map encO)), some (.str (owT l)), some (.int p), x7, none, none, none, none]) encO (fun r => encC r.2) l (fun r hq => ⟨_, rfl, rfl, by simp [encO]⟩)
  have j3 : (l.map fun r : Ow => encC r.2) = (l.map (·.2)).map encC := by rw [List.map_map]; rfl
  have i6 := f_rows_text_eq (l.map (·.2)) (by rw [List.length_map]; omega) fun c hc => by
    obtain ⟨r, hq, rfl⟩ := List.mem_map.mp hc
    have ok := rOk_c (hr r hq)
    exact ⟨by have := cOk_len ok; omega, fun q hq => pOk_sz (cOk_each ok q hq)⟩
  refine ⟨some (.str (owT l)), some (.int p), some (.str (rT (l.map (·.2)))), ?_⟩
  have lL : (l.map encO).length = l.length := List.length_map ..
  generalize hW : owT l = W at *
  generalize (l.take p).map encO = L1 at *
  generalize (l.drop p).map encO = L2 at *
  generalize l.map encO = L at *
  simp only [tsN, b_law_6, k_law_5, k_law_4]
  simp [-lcF, i1, i2, i3, dSplit, splS_C, l1, l3, l4, l5, d1, lL]
  simp only [k_law_3]
  simp [-lcF, t1, t2, i4, i5, e6, l6]
  simp only [k_law_2]
  simp [-lcF, dSplit, splS_C, l1, e5, l5, k1, dJoin, j1, Function.comp_def, s2, joinC_nil, j2]
  have k2 := k2 (some (.str (rT (l.map (·.2)))))
  rw [j3] at k2
  simp only [k_law_1]
  simp [-lcF, -List.map_map, k2, i6, l5, lL]
theorem law_true (ns : List Int) (h : ns.length ≤ 63) : f_law [.scr ns] = .ok (.bl true) := by
  have h2 : startE N_law [.scr ns] = [some (.scr ns), none, none, none, none, none, none, none, none, none, none, none] := rfl
  have lv := line_v
  have ht := ltext_len ns 0 4 (by decide)
  have htx := f_text_eq ns h 0 4 (by decide) (by decide)
  generalize ltext ns 0 4 = t at *
  obtain ⟨rs0, m, hr, hd, hm⟩ := f_rows_ok ns h 20 t 4 (by omega) (by decide)
  rw [show ((4 : Nat) : Int) = 4 from rfl] at hr
  have k0 := lcF_map (tgt := tsN 8) (tst := tTrue) (elt := eVar 8) (env := [some (.scr ns), some (.str t), none, none, none, none, none, none, none, none, none, none]) encO encO rs0 (fun r _ => ⟨_, rfl, rfl, by simp⟩)
  have each0 : ∀ r ∈ rs0, szO r := fun r hq => szO_of (by have := (hd.each r hq).2; omega) (by have := (hd.each r hq).1; omega)
  obtain ⟨k, hw, hok⟩ := wh (some (.scr ns)) (some (.str t)) none none none none none none none none none rs0.length rs0 rfl (by omega) each0
  have l0 : rs0.length ≤ line := by omega
  have hsub : ∀ r ∈ rs0.take k, r ∈ rs0 := fun r hq => List.mem_of_mem_take hq
  have hrow : ∃ m', Row t ((rs0.take k).map (·.2)) m' := by
    have q := hd.row
    rw [← List.take_append_drop k rs0, List.map_append] at q
    obtain ⟨m', q1, _⟩ := q.split
    exact ⟨m', q1⟩
  have hlen : (rs0.take k).length ≤ 4 := by rw [List.length_take]; omega
  generalize rs0.take k = rs at *
  obtain ⟨m', hrow⟩ := hrow
  have each : ∀ r ∈ rs, (uns r.2).length ≤ 130 := fun r hq => by have := (hd.each r (hsub r hq)).1; omega
  have names : ∀ r ∈ rs, nOk r.1 = true := fun r hq => by
    obtain ⟨j, hj, e⟩ := hd.own r (hsub r hq)
    rw [e]
    match j, hj with
    | 0, _ => rfl
    | 1, _ => rfl
    | 2, _ => rfl
    | 3, _ => rfl
  have hrs : ∀ r ∈ rs, rOk r = true := fun r hq => by rw [rOk, names r hq, hok r hq]; rfl
  have hsum : ∀ l : List Ow, (∀ r ∈ l, (uns r.2).length ≤ 130) → sumO l ≤ 130 * l.length := by
    intro l
    induction l with
    | nil => simp
    | cons x l ih => intro q; have := q x (by simp); have := ih fun r hr => q r (by simp [hr]); simp; omega
  have hs := hsum rs each
  obtain ⟨fin, hz, hfr⟩ := sqz_fit (rs := rs) (acc := []) (t := t) (m := t) rfl hrow
  have fs := sqz_sum hz
  simp only [sumO_nil, List.length_nil, Nat.zero_add] at fs
  have fp : ∀ r ∈ fin, r.1 ∈ rs.map (·.1) ∧ ∃ w, r.2 = ou w := sqz_P (P := fun r => r.1 ∈ rs.map (·.1) ∧ ∃ w, r.2 = ou w) (by simp) (fun r hq w => ⟨List.mem_map.mpr ⟨r, hq, rfl⟩, w, rfl⟩) hz
  have fn : ∀ r ∈ fin, r.1 ∈ rs.map (·.1) := fun r hq => (fp r hq).1
  have q1 := f_squeezed_eq rs (by omega) (by omega)
  rw [hz] at q1
  simp only at q1
  have fsz : ∀ r ∈ fin, szO r := fun r hq => by
    have h1 := sumO_le hq
    obtain ⟨w, hw⟩ := (fp r hq).2
    have h2 := form_len r.2
    have h3 : form r.2 = r.2 := by unfold form; rw [hw, uns_ou, ou_nf]
    rw [h3] at h2
    exact szO_of (by omega) (by omega)
  have k1 := lcF_fm (tgt := tsN 8) (tst := tVal (eCall f_is_change (aCons (eOp dIx (eVar 8) (eInt 1)) aNil))) (elt := eVar 8) (env := [some (.scr ns), some (.str t), some (.lst (rs.map encO)), none, none, none, none, none, none, none, none, none]) encO (fun r => cOk r.2) encO fin (fun r hq => ⟨_, rfl, by simp [encO, f_is_change_eq r.2 (fsz r hq).1 (fsz r hq).2], fun _ => by simp⟩)
  have few_ok : ∀ r ∈ fin.filter (fun r => cOk r.2), rOk r = true := fun r hq => by
    obtain ⟨a, b⟩ := List.mem_filter.mp hq
    obtain ⟨z, hz1, hz2⟩ := List.mem_map.mp (fn r a)
    rw [rOk, ← hz2, names z hz1]; simpa using b
  have few_len : (fin.filter fun r => cOk r.2).length ≤ 4 := by have := List.length_filter_le (fun r : Ow => cOk r.2) fin; omega
  have lf : fin.length ≤ line := by omega
  generalize fin.filter (fun r => cOk r.2) = few at *
  have all : ∀ l ∈ [rs, few, rs ++ few, rs.reverse], l.length ≤ 20 ∧ ∀ r ∈ l, rOk r = true := by
    intro l hl
    simp only [List.mem_cons, List.not_mem_nil, or_false] at hl
    rcases hl with rfl | rfl | rfl | rfl
    · exact ⟨by omega, hrs⟩
    · exact ⟨by omega, few_ok⟩
    · refine ⟨by rw [List.length_append]; omega, fun r hq => ?_⟩
      rcases List.mem_append.mp hq with q | q
      · exact hrs r q
      · exact few_ok r q
    · exact ⟨by rw [List.length_reverse]; omega, fun r hq => hrs r (List.mem_reverse.mp hq)⟩
  obtain ⟨e', h1, x4, x5, x6, x7, rfl⟩ := forF_all (tgt := tsN 4) (fb := b_law_6) (fun l : List Ow => D.lst (l.map encO)) [rs, few, rs ++ few, rs.reverse] (fun _ e => ∃ x4 x5 x6 x7, e = [some (.scr ns), some (.str t), some (.lst (rs.map encO)), some (.lst (few.map encO)), x4, x5, x6, x7, none, none, none, none]) [some (.scr ns), some (.str t), some (.lst (rs.map encO)), some (.lst (few.map encO)), none, none, none, none, none, none, none, none] ⟨none, none, none, none, rfl⟩ (by
    rintro pre l post e hp ⟨x4, x5, x6, x7, rfl⟩
    obtain ⟨a1, a2⟩ := all l (by rw [hp]; simp)
    obtain ⟨y5, y6, y7, q⟩ := turn ns h (some (.str t)) (some (.lst (rs.map encO))) (some (.lst (few.map encO))) l a1 a2 x4 x5 x6 x7
    exact ⟨_, q, _, y5, y6, y7, rfl⟩)
  simp only [List.map_cons, List.map_nil, List.map_append, List.map_reverse] at h1
  have o1 := f_owned_text_eq rs (by omega) hrs
  have o2 := f_owned_text_eq few (by omega) few_ok
  have o3 := f_read_owned_ok rs (by omega) hrs
  have o4 := (en_O.lst).dEq (by decide) rs few
  have o5 : decide (owT rs = owT few) = decide (rs = few) := decide_eq_decide.mpr (owT_inj (by omega) (by omega) hrs few_ok)
  have w1 := f_owners_eq t m' rs hrow (by omega) (by omega)
  have w2 := (en_M.lst).dEq (by decide) (mwR rs (List.replicate t.length none)) (mwR rs (List.replicate t.length none))
  simp only [decide_true] at w2
  have l4 : 4 ≤ line := by omega
  have l5 : rs.length + few.length ≤ line := by omega
  unfold cnd at hw
  simp only [f_law, s_law, h2]
  simp [-lcF, k_law_12, htx, hr, l0, k0]
  simp [-lcF, k_law_11, hw]
  simp [-lcF, k_law_10, q1, lf, k1]
  simp [-lcF, -forF, k_law_9, eRevL, l4, l5, h1]
  simp [-lcF, k_law_8, o1, o2, o4, o5, k_law_7, o3, w1, w2]
end G81.W94

namespace G81.W94
open PySem PySem.Spec PyProof.Rows L2
noncomputable section
def topS (i : Nat) : Stmt := PySem.Challenge.pw_pastways_k94_whole_owned_texts.main.body.getD i (.Pass ⟨0, 0, 0, 0⟩)
theorem w_is_signs {G : Gx} [Calm G] (T : TopD G "is_signs" (topS 6) ["thing"]) (z_isinstance : G.mg "isinstance" = none) (z_str : G.mg "str" = none) (z_all : G.mg "all" = none) (k_SIGNS : ∃ t, G.mg "SIGNS" = some (.str (Str.ofString "abcdefghijklmnopqrstuvwxyz ") t)) : FnM G 1 "is_signs" 1 false f_is_signs := by
  obtain ⟨f, fd, F, hm, hb⟩ := T.ex
  refine fn_ok (O' := []) (N := ["thing", "sign"]) (fb := s_is_signs) F ⟨rfl, rfl, rfl, by decide +kernel, rfl, by decide +kernel, by decide +kernel⟩ rfl hb hm fun cdv A outer s H E C => ?_
  have c := C.c
  exact (bm_cons (sm_ret (O' := []) (em_and (em_isi c Ty5.str (fun _ => rfl) z_isinstance (fun _ => rfl) z_str (by decide +kernel) (em_var c 0 rfl rfl (fun _ => Or.inl rfl))) (em_one (em_callB c (ca_all c) (fun _ => rfl) z_all (by decide +kernel) (am_cons (EO.em (eLcN (b := false) [("sign", 1)] c (im_bor c (EM.ec (em_var c 0 rfl rfl (fun _ => Or.inl rfl)))) (fun _ => rfl) (by decide +kernel) (gm_name (CxOk.blk c _) 1 rfl rfl rfl (fun _ => Or.inl rfl)) ts_nil (em_cmp (cm_in (CxOk.blk c _)) ne_in' (em_var (CxOk.blk c _) 1 rfl rfl (fun _ => Or.inl rfl)) (em_cstr (CxOk.blk c _) (fun _ => rfl) k_SIGNS) rfl))) am_nil)))))
  b0)

theorem w_units_of {G : Gx} [Calm G] (T : TopD G "units_of" (topS 9) ["change"])  : FnM G 1 "units_of" 1 true f_units_of := by
  obtain ⟨f, fd, F, hm, hb⟩ := T.ex
  refine fn_ok (O' := []) (N := ["change", "found", "word", "what", "sign"]) (fb := s_units_of) F ⟨rfl, rfl, rfl, by decide +kernel, rfl, by decide +kernel, by decide +kernel⟩ rfl hb hm fun cdv A outer s H E C => ?_
  have c := C.c
  exact (bm_cons (sSetO (O' := [1]) c 1 rfl (fun _ => Or.inl rfl) (eo_lst am_nil))
  (bm_cons (sm_for (vs := [2, 3]) C tsT_ne (im_frz c (em_var c 0 rfl rfl (fun _ => Or.inl rfl))) (gm_tup c (is := [2, 3]) (gs_cons (gm_name c 2 rfl rfl rfl (fun _ => Or.inr rfl)) (gs_cons (gm_name c 3 rfl rfl rfl (fun _ => Or.inl rfl)) gs_nil))) (bm_cons (sm_if (O' := [1]) (tm_cmp (cm_eq c) ne_eq' (em_var c 2 rfl rfl (fun _ => Or.inr (Or.inl rfl))) em_str rfl) (bm_cons (sm_ext c 1 rfl rfl (fun _ => Or.inl rfl) (EM.xm (em_op (opm_mul c) (em_lst (am_cons (em_tup (am_cons em_str (am_cons em_str am_nil))) am_nil)) (em_var c 3 rfl rfl (fun _ => Or.inl rfl)))))
  b0) (bm_cons (sm_ext c 1 rfl rfl (fun _ => Or.inl rfl) (EM.xm (EO.em (eLcN (b := false) [("sign", 4)] c (im_bor c (EM.ec (em_var c 3 rfl rfl (fun _ => Or.inl rfl)))) (fun _ => rfl) (by decide +kernel) (gm_name (CxOk.blk c _) 4 rfl rfl rfl (fun _ => Or.inl rfl)) ts_nil (em_tup (am_cons (em_var (CxOk.blk c _) 2 rfl rfl (fun _ => Or.inr (Or.inl rfl))) (am_cons (em_var (CxOk.blk c _) 4 rfl rfl (fun _ => Or.inl rfl)) am_nil)))))))
  b0))
  b0))
  (bm_cons (sm_retV (O' := []) c 1 rfl rfl (fun _ => Or.inl rfl))
  b0)))

theorem w_of_units {G : Gx} [Calm G] (T : TopD G "of_units" (topS 10) ["units"]) (z_tuple : G.mg "tuple" = none) (z_int : G.mg "int" = none) : FnM G 1 "of_units" 1 false f_of_units := by
  obtain ⟨f, fd, F, hm, hb⟩ := T.ex
  refine fn_ok (O' := []) (N := ["units", "found", "kept", "gone", "new", "word", "sign"]) (fb := s_of_units) F ⟨rfl, rfl, rfl, by decide +kernel, rfl, by decide +kernel, by decide +kernel⟩ rfl hb hm fun cdv A outer s H E C => ?_
  have c := C.c
  exact (bm_cons (sSetO (O' := [1]) c 1 rfl (fun _ => Or.inl rfl) (eo_lst am_nil))
  (bm_cons (sSetN c 2 rfl (fun _ => Or.inl rfl) em_int)
  (bm_cons (sSetN c 3 rfl (fun _ => Or.inl rfl) em_str)
  (bm_cons (sSetN c 4 rfl (fun _ => Or.inl rfl) em_str)
  (bm_cons (sm_for (vs := [5, 6]) C tsT_ne (im_frz c (em_op (opm_add c) (em_var c 0 rfl rfl (fun _ => Or.inl rfl)) (em_lst (am_cons (em_tup (am_cons em_str (am_cons em_str am_nil))) am_nil)))) (gm_tup c (is := [5, 6]) (gs_cons (gm_name c 5 rfl rfl rfl (fun _ => Or.inl rfl)) (gs_cons (gm_name c 6 rfl rfl rfl (fun _ => Or.inl rfl)) gs_nil))) (bm_cons (sm_if (O' := [1]) (tm_cmp (cm_eq c) ne_eq' (em_var c 5 rfl rfl (fun _ => Or.inl rfl)) em_str rfl) (bm_cons (sm_if (O' := [1]) (WM.tm (wm_and (WM.tm (wm_or (tm_cmp (cm_ne c) ne_ne' (em_var c 3 rfl rfl (fun _ => Or.inl rfl)) em_str rfl) (wm_or1 (tm_cmp (cm_ne c) ne_ne' (em_var c 4 rfl rfl (fun _ => Or.inl rfl)) em_str rfl)))) (wm_and1 (tm_cmp cm_gt ne_gt' (em_var c 2 rfl rfl (fun _ => Or.inl rfl)) em_int rfl)))) (bm_cons (sm_app c 1 rfl rfl (fun _ => Or.inl rfl) (EM.xm (em_tup (am_cons em_str (am_cons (em_var c 2 rfl rfl (fun _ => Or.inl rfl)) am_nil)))))
  (bm_cons (sSetN c 2 rfl (fun _ => Or.inl rfl) em_int)
  b0)) b0)
  (bm_cons (sm_ext c 1 rfl rfl (fun _ => Or.inl rfl) (EM.xm (em_op (opm_add c) (em_op (opm_mul c) (em_lst (am_cons (em_tup (am_cons em_str (am_cons (em_var c 3 rfl rfl (fun _ => Or.inl rfl)) am_nil))) am_nil)) (em_callT c ca_int (fun _ => rfl) z_int (by decide +kernel) (am_cons (em_cmp (cm_ne c) ne_ne' (em_var c 3 rfl rfl (fun _ => Or.inl rfl)) em_str rfl) am_nil))) (em_op (opm_mul c) (em_lst (am_cons (em_tup (am_cons em_str (am_cons (em_var c 4 rfl rfl (fun _ => Or.inl rfl)) am_nil))) am_nil)) (em_callT c ca_int (fun _ => rfl) z_int (by decide +kernel) (am_cons (em_cmp (cm_ne c) ne_ne' (em_var c 4 rfl rfl (fun _ => Or.inl rfl)) em_str rfl) am_nil))))))
  (bm_cons (sSetN c 3 rfl (fun _ => Or.inl rfl) em_str)
  (bm_cons (sSetN c 4 rfl (fun _ => Or.inl rfl) em_str)
  (bm_cons (sSetN c 2 rfl (fun _ => Or.inl rfl) (em_op (opm_add c) (em_var c 2 rfl rfl (fun _ => Or.inl rfl)) em_int))
  b0))))) (bm_cons (sm_if (O' := [1]) (tm_cmp (cm_eq c) ne_eq' (em_var c 5 rfl rfl (fun _ => Or.inl rfl)) em_str rfl) (bm_cons (sSetN c 3 rfl (fun _ => Or.inl rfl) (em_op (opm_add c) (em_var c 3 rfl rfl (fun _ => Or.inl rfl)) (em_var c 6 rfl rfl (fun _ => Or.inl rfl))))
  b0) (bm_cons (sSetN c 4 rfl (fun _ => Or.inl rfl) (em_op (opm_add c) (em_var c 4 rfl rfl (fun _ => Or.inl rfl)) (em_var c 6 rfl rfl (fun _ => Or.inl rfl))))
  b0))
  b0))
  b0))
  (bm_cons (sm_if (O' := [1]) (tm_cmp cm_gt ne_gt' (em_var c 2 rfl rfl (fun _ => Or.inl rfl)) em_int rfl) (bm_cons (sm_app c 1 rfl rfl (fun _ => Or.inl rfl) (EM.xm (em_tup (am_cons em_str (am_cons (em_op opm_sub (em_var c 2 rfl rfl (fun _ => Or.inl rfl)) em_int) am_nil)))))
  b0) b0)
  (bm_cons (sWk [] (sm_ret (O' := []) (em_callT c (ca_tuple c) (fun _ => rfl) z_tuple (by decide +kernel) (am_cons (em_var c 1 rfl rfl (fun _ => Or.inl rfl)) am_nil))))
  b0)))))))

theorem w_change_text {G : Gx} [Calm G] (T : TopD G "change_text" (topS 22) ["change"]) (z_str : G.mg "str" = none) (k_HEADS : WDk G.K G.w G.mg "HEADS" [(['k', 'e', 'e', 'p'], ['=']), (['p', 'u', 't'], ['+']), (['d', 'r', 'o', 'p'], ['-'])]) : FnM G 1 "change_text" 1 false f_change_text := by
  obtain ⟨f, fd, F, hm, hb⟩ := T.ex
  refine fn_ok (O' := []) (N := ["change", "word", "what"]) (fb := s_change_text) F ⟨rfl, rfl, rfl, by decide +kernel, rfl, by decide +kernel, by decide +kernel⟩ rfl hb hm fun cdv A outer s H E C => ?_
  have c := C.c
  exact (bm_cons (sm_ret (O' := []) (em_join c em_str (EO.em (eLcN (b := false) [("word", 1), ("what", 2)] c (im_bor c (EM.ec (em_var c 0 rfl rfl (fun _ => Or.inl rfl)))) (fun _ => rfl) (by decide +kernel) (gm_tup (CxOk.blk c _) (is := [1, 2]) (gs_cons (gm_name (CxOk.blk c _) 1 rfl rfl rfl (fun _ => Or.inl rfl)) (gs_cons (gm_name (CxOk.blk c _) 2 rfl rfl rfl (fun _ => Or.inl rfl)) gs_nil))) ts_nil (em_op (opm_add (CxOk.blk c _)) (em_wget (CxOk.blk c _) k_HEADS (em_wd (CxOk.blk c _) k_HEADS (fun _ => rfl)) (em_var (CxOk.blk c _) 1 rfl rfl (fun _ => Or.inl rfl)) (fun _ _ => rfl)) (em_callT (CxOk.blk c _) ca_str (fun _ => rfl) z_str (by decide +kernel) (am_cons (em_var (CxOk.blk c _) 2 rfl rfl (fun _ => Or.inl rfl)) am_nil)))))))
  b0)

theorem w_part_in {G : Gx} [Calm G] (T : TopD G "part_in" (topS 23) ["text"]) (z_int : G.mg "int" = none) (z_all : G.mg "all" = none) (z_len : G.mg "len" = none) (k_WORDS : WDk G.K G.w G.mg "WORDS" [(['='], ['k', 'e', 'e', 'p']), (['+'], ['p', 'u', 't']), (['-'], ['d', 'r', 'o', 'p'])]) (k_FIGURES : ∃ t, G.mg "FIGURES" = some (.str (Str.ofString "0123456789") t)) (x_NoText : ExM G "NoText") : FnM G 1 "part_in" 1 false f_part_in := by
  obtain ⟨f, fd, F, hm, hb⟩ := T.ex
  refine fn_ok (O' := []) (N := ["text", "word", "sign"]) (fb := s_part_in) F ⟨rfl, rfl, rfl, by decide +kernel, rfl, by decide +kernel, by decide +kernel⟩ rfl hb hm fun cdv A outer s H E C => ?_
  have c := C.c
  exact (bm_cons (sm_if (O' := []) (WM.tm (wm_or (tm_cmp (cm_notInW c k_WORDS) ne_notInW (em_sl c (EM.ec (em_var c 0 rfl rfl (fun _ => Or.inl rfl))) om_none (om_some em_int)) (em_wd c k_WORDS (fun _ => rfl)) rfl) (wm_or1 (tm_cmp (cm_eq c) ne_eq' (em_var c 0 rfl rfl (fun _ => Or.inl rfl)) em_str rfl)))) (bm_cons (sm_raise (O' := []) C x_NoText (fun _ => rfl))
  b0) b0)
  (bm_cons (sSetN c 1 rfl (fun _ => Or.inl rfl) (em_wget c k_WORDS (em_wd c k_WORDS (fun _ => rfl)) (em_sl c (EM.ec (em_var c 0 rfl rfl (fun _ => Or.inl rfl))) om_none (om_some em_int)) (fun _ _ => rfl)))
  (bm_cons (sm_if (O' := []) (tm_cmp (cm_ne c) ne_ne' (em_var c 1 rfl rfl (fun _ => Or.inl rfl)) em_str rfl) (bm_cons (sm_ret (O' := []) (em_tup (am_cons (em_var c 1 rfl rfl (fun _ => Or.inl rfl)) (am_cons (em_sl c (EM.ec (em_var c 0 rfl rfl (fun _ => Or.inl rfl))) (om_some em_int) om_none) am_nil))))
  b0) b0)
  (bm_cons (sm_if (O' := []) (WM.tm (wm_or (tm_not (tm_chain cm_le ne_le' cm_le ne_le' em_int (em_callB c (ca_len c) (fun _ => rfl) z_len (by decide +kernel) (am_cons (em_var c 0 rfl rfl (fun _ => Or.inl rfl)) am_nil)) em_int)) (wm_or1 (tm_not (tm_val (em_callB c (ca_all c) (fun _ => rfl) z_all (by decide +kernel) (am_cons (EO.em (eLcN (b := false) [("sign", 2)] c (im_bor c (EM.ec (em_sl c (EM.ec (em_var c 0 rfl rfl (fun _ => Or.inl rfl))) (om_some em_int) om_none))) (fun _ => rfl) (by decide +kernel) (gm_name (CxOk.blk c _) 2 rfl rfl rfl (fun _ => Or.inl rfl)) ts_nil (em_cmp (cm_in (CxOk.blk c _)) ne_in' (em_var (CxOk.blk c _) 2 rfl rfl (fun _ => Or.inl rfl)) (em_cstr (CxOk.blk c _) (fun _ => rfl) k_FIGURES) rfl))) am_nil)) (fun _ _ => rfl)))))) (bm_cons (sm_raise (O' := []) C x_NoText (fun _ => rfl))
  b0) b0)
  (bm_cons (sm_ret (O' := []) (em_tup (am_cons (em_var c 1 rfl rfl (fun _ => Or.inl rfl)) (am_cons (em_callT c ca_intT (fun _ => rfl) z_int (by decide +kernel) (am_cons (em_sl c (EM.ec (em_var c 0 rfl rfl (fun _ => Or.inl rfl))) (om_some em_int) om_none) am_nil)) am_nil))))
  b0)))))

theorem w_is_own {G : Gx} [Calm G] (T : TopD G "is_own" (topS 28) ["thing"]) (z_all : G.mg "all" = none) (z_len : G.mg "len" = none) (k_MOST_LETTERS : ∃ t, G.mg "MOST_LETTERS" = some (.int 6 t)) (k_LETTERS : ∃ t, G.mg "LETTERS" = some (.str (Str.ofString "abcdefghijklmnopqrstuvwxyz") t)) : FnM G 1 "is_own" 1 false f_is_own := by
  obtain ⟨f, fd, F, hm, hb⟩ := T.ex
  refine fn_ok (O' := []) (N := ["thing", "sign"]) (fb := s_is_own) F ⟨rfl, rfl, rfl, by decide +kernel, rfl, by decide +kernel, by decide +kernel⟩ rfl hb hm fun cdv A outer s H E C => ?_
  have c := C.c
  exact (bm_cons (sm_ret (O' := []) (em_and (em_chain cm_le ne_le' cm_le ne_le' em_int (em_callB c (ca_len c) (fun _ => rfl) z_len (by decide +kernel) (am_cons (em_var c 0 rfl rfl (fun _ => Or.inl rfl)) am_nil)) (em_cint c (fun _ => rfl) k_MOST_LETTERS)) (em_one (em_callB c (ca_all c) (fun _ => rfl) z_all (by decide +kernel) (am_cons (EO.em (eLcN (b := false) [("sign", 1)] c (im_bor c (EM.ec (em_var c 0 rfl rfl (fun _ => Or.inl rfl)))) (fun _ => rfl) (by decide +kernel) (gm_name (CxOk.blk c _) 1 rfl rfl rfl (fun _ => Or.inl rfl)) ts_nil (em_cmp (cm_in (CxOk.blk c _)) ne_in' (em_var (CxOk.blk c _) 1 rfl rfl (fun _ => Or.inl rfl)) (em_cstr (CxOk.blk c _) (fun _ => rfl) k_LETTERS) rfl))) am_nil)))))
  b0)

theorem w_met {G : Gx} [Calm G] (T : TopD G "met" (topS 33) ["one", "other"]) (x_NoFit : ExM G "NoFit") : FnM G 1 "met" 2 false f_met := by
  obtain ⟨f, fd, F, hm, hb⟩ := T.ex
  refine fn_ok (O' := []) (N := ["one", "other"]) (fb := s_met) F ⟨rfl, rfl, rfl, by decide +kernel, rfl, by decide +kernel, by decide +kernel⟩ rfl hb hm fun cdv A outer s H E C => ?_
  have c := C.c
  exact (bm_cons (sm_if (O' := []) (tm_cmp (cm_eq c) ne_eq' (em_ix c (EM.ec (em_var c 0 rfl rfl (fun _ => Or.inl rfl))) em_int (fun _ _ => rfl)) em_str rfl) (bm_cons (sm_ret (O' := []) (em_lst (am_cons (em_var c 1 rfl rfl (fun _ => Or.inl rfl)) am_nil)))
  b0) b0)
  (bm_cons (sm_if (O' := []) (tm_cmp (cm_eq c) ne_eq' (em_ix c (EM.ec (em_var c 1 rfl rfl (fun _ => Or.inl rfl))) em_int (fun _ _ => rfl)) em_str rfl) (bm_cons (sm_ret (O' := []) (em_lst (am_cons (em_var c 0 rfl rfl (fun _ => Or.inl rfl)) am_nil)))
  b0) b0)
  (bm_cons (sm_if (O' := []) (tm_cmp (cm_ne c) ne_ne' (em_ix c (EM.ec (em_var c 0 rfl rfl (fun _ => Or.inl rfl))) em_int (fun _ _ => rfl)) (em_ix c (EM.ec (em_var c 1 rfl rfl (fun _ => Or.inl rfl))) em_int (fun _ _ => rfl)) rfl) (bm_cons (sm_raise (O' := []) C x_NoFit (fun _ => rfl))
  b0) b0)
  (bm_cons (sm_ret (O' := []) (em_lst am_nil))
  b0))))

theorem w__law_cell {G : Gx} [Calm G] (T : TopD G "_law_cell" (topS 41) ["_law_script", "_law_k"]) (z_len : G.mg "len" = none) : FnM G 1 "_law_cell" 2 false f__law_cell := by
  obtain ⟨f, fd, F, hm, hb⟩ := T.ex
  refine fn_ok (O' := []) (N := ["_law_script", "_law_k"]) (fb := s__law_cell) F ⟨rfl, rfl, rfl, by decide +kernel, rfl, by decide +kernel, by decide +kernel⟩ rfl hb hm fun cdv A outer s H E C => ?_
  have c := C.c
  exact (bm_cons (sm_if (O' := []) (tm_cmp (cm_eq c) ne_eq' (em_var c 0 rfl rfl (fun _ => Or.inl rfl)) (em_lst am_nil) rfl) (bm_cons (sm_ret (O' := []) (em_op (opm_mul c) em_int (em_var c 1 rfl rfl (fun _ => Or.inl rfl))))
  b0) b0)
  (bm_cons (sm_ret (O' := []) (em_op (opm_add c) (em_ix c (EM.ec (em_var c 0 rfl rfl (fun _ => Or.inl rfl))) (em_op opm_mod (em_var c 1 rfl rfl (fun _ => Or.inl rfl)) (em_callB c (ca_len c) (fun _ => rfl) z_len (by decide +kernel) (am_cons (em_var c 0 rfl rfl (fun _ => Or.inl rfl)) am_nil))) (fun _ _ => rfl)) (em_op (opm_mul c) em_int (em_op opm_fdiv (em_var c 1 rfl rfl (fun _ => Or.inl rfl)) (em_callB c (ca_len c) (fun _ => rfl) z_len (by decide +kernel) (am_cons (em_var c 0 rfl rfl (fun _ => Or.inl rfl)) am_nil))))))
  b0))

theorem w__law_made {G : Gx} [Calm G] (T : TopD G "_law_made" (topS 45) ["_law_change_here", "_law_text_here"]) (z_len : G.mg "len" = none) : FnM G 1 "_law_made" 2 false f__law_made := by
  obtain ⟨f, fd, F, hm, hb⟩ := T.ex
  refine fn_ok (O' := []) (N := ["_law_change_here", "_law_text_here", "_law_place", "_law_found", "_law_word", "_law_what"]) (fb := s__law_made) F ⟨rfl, rfl, rfl, by decide +kernel, rfl, by decide +kernel, by decide +kernel⟩ rfl hb hm fun cdv A outer s H E C => ?_
  have c := C.c
  exact (bm_cons (sSetN c 2 rfl (fun _ => Or.inl rfl) em_int)
  (bm_cons (sSetN c 3 rfl (fun _ => Or.inl rfl) em_str)
  (bm_cons (sm_for (vs := [4, 5]) C tsT_ne (im_frz c (em_var c 0 rfl rfl (fun _ => Or.inl rfl))) (gm_tup c (is := [4, 5]) (gs_cons (gm_name c 4 rfl rfl rfl (fun _ => Or.inl rfl)) (gs_cons (gm_name c 5 rfl rfl rfl (fun _ => Or.inl rfl)) gs_nil))) (bm_cons (sm_if (O' := []) (tm_cmp (cm_eq c) ne_eq' (em_var c 4 rfl rfl (fun _ => Or.inl rfl)) em_str rfl) (bm_cons (sSetN c 3 rfl (fun _ => Or.inl rfl) (em_op (opm_add c) (em_var c 3 rfl rfl (fun _ => Or.inl rfl)) (em_var c 5 rfl rfl (fun _ => Or.inl rfl))))
  b0) (bm_cons (sm_if (O' := []) (tm_cmp (cm_eq c) ne_eq' (em_var c 4 rfl rfl (fun _ => Or.inl rfl)) em_str rfl) (bm_cons (sm_if (O' := []) (tm_cmp (cm_ne c) ne_ne' (em_sl c (EM.ec (em_var c 1 rfl rfl (fun _ => Or.inl rfl))) (om_some (em_var c 2 rfl rfl (fun _ => Or.inl rfl))) (om_some (em_op (opm_add c) (em_var c 2 rfl rfl (fun _ => Or.inl rfl)) (em_callB c (ca_len c) (fun _ => rfl) z_len (by decide +kernel) (am_cons (em_var c 5 rfl rfl (fun _ => Or.inl rfl)) am_nil))))) (em_var c 5 rfl rfl (fun _ => Or.inl rfl)) rfl) (bm_cons (sm_ret (O' := []) em_non)
  b0) b0)
  (bm_cons (sSetN c 2 rfl (fun _ => Or.inl rfl) (em_op (opm_add c) (em_var c 2 rfl rfl (fun _ => Or.inl rfl)) (em_callB c (ca_len c) (fun _ => rfl) z_len (by decide +kernel) (am_cons (em_var c 5 rfl rfl (fun _ => Or.inl rfl)) am_nil))))
  b0)) (bm_cons (sSetN c 3 rfl (fun _ => Or.inl rfl) (em_op (opm_add c) (em_var c 3 rfl rfl (fun _ => Or.inl rfl)) (em_sl c (EM.ec (em_var c 1 rfl rfl (fun _ => Or.inl rfl))) (om_some (em_var c 2 rfl rfl (fun _ => Or.inl rfl))) (om_some (em_op (opm_add c) (em_var c 2 rfl rfl (fun _ => Or.inl rfl)) (em_var c 5 rfl rfl (fun _ => Or.inl rfl)))))))
  (bm_cons (sSetN c 2 rfl (fun _ => Or.inl rfl) (em_op (opm_add c) (em_var c 2 rfl rfl (fun _ => Or.inl rfl)) (em_var c 5 rfl rfl (fun _ => Or.inl rfl))))
  b0)))
  b0))
  b0))
  (bm_cons (sm_ret (O' := []) (em_if (tm_cmp (cm_eq c) ne_eq' (em_var c 2 rfl rfl (fun _ => Or.inl rfl)) (em_callB c (ca_len c) (fun _ => rfl) z_len (by decide +kernel) (am_cons (em_var c 1 rfl rfl (fun _ => Or.inl rfl)) am_nil)) rfl) (em_var c 3 rfl rfl (fun _ => Or.inl rfl)) em_non))
  b0))))

theorem w_is_part {G : Gx} [Calm G] (T : TopD G "is_part" (topS 7) ["thing"]) (z_isinstance : G.mg "isinstance" = none) (z_tuple : G.mg "tuple" = none) (z_len : G.mg "len" = none) (z_str : G.mg "str" = none) (z_int : G.mg "int" = none) (z_bool : G.mg "bool" = none) (h_is_signs : FnM G 1 "is_signs" 1 false f_is_signs) (k_MOST_SIGNS : ∃ t, G.mg "MOST_SIGNS" = some (.int 8 t)) (k_MOST_KEPT : ∃ t, G.mg "MOST_KEPT" = some (.int 99 t)) : FnM G 2 "is_part" 1 false f_is_part := by
  obtain ⟨f, fd, F, hm, hb⟩ := T.ex
  refine fn_ok (O' := []) (N := ["thing"]) (fb := s_is_part) F ⟨rfl, rfl, rfl, by decide +kernel, rfl, by decide +kernel, by decide +kernel⟩ rfl hb hm fun cdv A outer s H E C => ?_
  have c := C.c
  exact (bm_cons (sm_if (O' := []) (WM.tm (wm_or (tm_not (tm_val (em_isi c Ty5.tuple (fun _ => rfl) z_isinstance (fun _ => rfl) z_tuple (by decide +kernel) (em_var c 0 rfl rfl (fun _ => Or.inl rfl))) (fun _ _ => rfl))) (wm_or (tm_cmp (cm_ne c) ne_ne' (em_callB c (ca_len c) (fun _ => rfl) z_len (by decide +kernel) (am_cons (em_var c 0 rfl rfl (fun _ => Or.inl rfl)) am_nil)) em_int rfl) (wm_or1 (tm_not (tm_val (em_isi c Ty5.str (fun _ => rfl) z_isinstance (fun _ => rfl) z_str (by decide +kernel) (em_ix c (EM.ec (em_var c 0 rfl rfl (fun _ => Or.inl rfl))) em_int (fun _ _ => rfl))) (fun _ _ => rfl))))))) (bm_cons (sm_ret (O' := []) em_bl)
  b0) b0)
  (bm_cons (sm_if (O' := []) (tm_cmp (cm_eq c) ne_eq' (em_ix c (EM.ec (em_var c 0 rfl rfl (fun _ => Or.inl rfl))) em_int (fun _ _ => rfl)) em_str rfl) (bm_cons (sm_ret (O' := []) (em_and (em_isi c Ty5.int (fun _ => rfl) z_isinstance (fun _ => rfl) z_int (by decide +kernel) (em_ix c (EM.ec (em_var c 0 rfl rfl (fun _ => Or.inl rfl))) em_int (fun _ _ => rfl))) (em_and (em_not (em_isi c Ty5.bool (fun _ => rfl) z_isinstance (fun _ => rfl) z_bool (by decide +kernel) (em_ix c (EM.ec (em_var c 0 rfl rfl (fun _ => Or.inl rfl))) em_int (fun _ _ => rfl)))) (em_one (em_chain cm_le ne_le' cm_le ne_le' em_int (em_ix c (EM.ec (em_var c 0 rfl rfl (fun _ => Or.inl rfl))) em_int (fun _ _ => rfl)) (em_cint c (fun _ => rfl) k_MOST_KEPT))))))
  b0) b0)
  (bm_cons (sm_ret (O' := []) (em_and (em_cmp (cm_in c) ne_in' (em_ix c (EM.ec (em_var c 0 rfl rfl (fun _ => Or.inl rfl))) em_int (fun _ _ => rfl)) (em_tup (am_cons em_str (am_cons em_str am_nil))) rfl) (em_and (em_call c h_is_signs rfl (fun _ => rfl) (am_cons (em_ix c (EM.ec (em_var c 0 rfl rfl (fun _ => Or.inl rfl))) em_int (fun _ _ => rfl)) am_nil) (hln := (ln_cons ln_nil))) (em_one (em_chain cm_le ne_le' cm_le ne_le' em_int (em_callB c (ca_len c) (fun _ => rfl) z_len (by decide +kernel) (am_cons (em_ix c (EM.ec (em_var c 0 rfl rfl (fun _ => Or.inl rfl))) em_int (fun _ _ => rfl)) am_nil)) (em_cint c (fun _ => rfl) k_MOST_SIGNS))))))
  b0)))

theorem w_form {G : Gx} [Calm G] (T : TopD G "form" (topS 11) ["change"]) (h_of_units : FnM G 1 "of_units" 1 false f_of_units) (h_units_of : FnM G 1 "units_of" 1 true f_units_of) : FnM G 2 "form" 1 false f_form := by
  obtain ⟨f, fd, F, hm, hb⟩ := T.ex
  refine fn_ok (O' := []) (N := ["change"]) (fb := s_form) F ⟨rfl, rfl, rfl, by decide +kernel, rfl, by decide +kernel, by decide +kernel⟩ rfl hb hm fun cdv A outer s H E C => ?_
  have c := C.c
  exact (bm_cons (sm_ret (O' := []) (em_call c h_of_units rfl (fun _ => rfl) (am_cons (em_call c (FnM.un h_units_of) rfl (fun _ => rfl) (am_cons (em_var c 0 rfl rfl (fun _ => Or.inl rfl)) am_nil) (hln := (ln_cons ln_nil))) am_nil) (hln := (ln_cons ln_nil))))
  b0)

theorem w_before {G : Gx} [Calm G] (T : TopD G "before" (topS 12) ["change"]) (z_len : G.mg "len" = none) (h_units_of : FnM G 1 "units_of" 1 true f_units_of) : FnM G 2 "before" 1 false f_before := by
  obtain ⟨f, fd, F, hm, hb⟩ := T.ex
  refine fn_ok (O' := []) (N := ["change", "unit"]) (fb := s_before) F ⟨rfl, rfl, rfl, by decide +kernel, rfl, by decide +kernel, by decide +kernel⟩ rfl hb hm fun cdv A outer s H E C => ?_
  have c := C.c
  exact (bm_cons (sm_ret (O' := []) (em_callB c (ca_len c) (fun _ => rfl) z_len (by decide +kernel) (am_cons (EO.em (eLcN (b := false) [("unit", 1)] c (im_bor c (EM.ec (em_call c (FnM.un h_units_of) rfl (fun _ => rfl) (am_cons (em_var c 0 rfl rfl (fun _ => Or.inl rfl)) am_nil) (hln := (ln_cons ln_nil))))) (fun _ => rfl) (by decide +kernel) (gm_name (CxOk.blk c _) 1 rfl rfl rfl (fun _ => Or.inl rfl)) (ts_one (tm_cmp (cm_ne (CxOk.blk c _)) ne_ne' (em_ix (CxOk.blk c _) (EM.ec (em_var (CxOk.blk c _) 1 rfl rfl (fun _ => Or.inl rfl))) em_int (fun _ _ => rfl)) em_str rfl)) (em_var (CxOk.blk c _) 1 rfl rfl (fun _ => Or.inl rfl)))) am_nil)))
  b0)

theorem w_cost {G : Gx} [Calm G] (T : TopD G "cost" (topS 13) ["change"]) (z_len : G.mg "len" = none) (h_units_of : FnM G 1 "units_of" 1 true f_units_of) : FnM G 2 "cost" 1 false f_cost := by
  obtain ⟨f, fd, F, hm, hb⟩ := T.ex
  refine fn_ok (O' := []) (N := ["change", "unit"]) (fb := s_cost) F ⟨rfl, rfl, rfl, by decide +kernel, rfl, by decide +kernel, by decide +kernel⟩ rfl hb hm fun cdv A outer s H E C => ?_
  have c := C.c
  exact (bm_cons (sm_ret (O' := []) (em_callB c (ca_len c) (fun _ => rfl) z_len (by decide +kernel) (am_cons (EO.em (eLcN (b := false) [("unit", 1)] c (im_bor c (EM.ec (em_call c (FnM.un h_units_of) rfl (fun _ => rfl) (am_cons (em_var c 0 rfl rfl (fun _ => Or.inl rfl)) am_nil) (hln := (ln_cons ln_nil))))) (fun _ => rfl) (by decide +kernel) (gm_name (CxOk.blk c _) 1 rfl rfl rfl (fun _ => Or.inl rfl)) (ts_one (tm_cmp (cm_ne (CxOk.blk c _)) ne_ne' (em_ix (CxOk.blk c _) (EM.ec (em_var (CxOk.blk c _) 1 rfl rfl (fun _ => Or.inl rfl))) em_int (fun _ _ => rfl)) em_str rfl)) (em_var (CxOk.blk c _) 1 rfl rfl (fun _ => Or.inl rfl)))) am_nil)))
  b0)

theorem w_rows_text {G : Gx} [Calm G] (T : TopD G "rows_text" (topS 25) ["rows"]) (h_change_text : FnM G 1 "change_text" 1 false f_change_text) : FnM G 2 "rows_text" 1 false f_rows_text := by
  obtain ⟨f, fd, F, hm, hb⟩ := T.ex
  refine fn_ok (O' := []) (N := ["rows", "change"]) (fb := s_rows_text) F ⟨rfl, rfl, rfl, by decide +kernel, rfl, by decide +kernel, by decide +kernel⟩ rfl hb hm fun cdv A outer s H E C => ?_
  have c := C.c
  exact (bm_cons (sm_ret (O' := []) (em_join c em_str (EO.em (eLcN (b := false) [("change", 1)] c (im_bor c (EM.ec (em_var c 0 rfl rfl (fun _ => Or.inl rfl)))) (fun _ => rfl) (by decide +kernel) (gm_name (CxOk.blk c _) 1 rfl rfl rfl (fun _ => Or.inl rfl)) ts_nil (em_op (opm_add (CxOk.blk c _)) (em_call (CxOk.blk c _) h_change_text rfl (fun _ => rfl) (am_cons (em_var (CxOk.blk c _) 1 rfl rfl (fun _ => Or.inl rfl)) am_nil) (hln := (ln_cons ln_nil))) em_str)))))
  b0)

theorem w_owned_text {G : Gx} [Calm G] (T : TopD G "owned_text" (topS 29) ["rows"]) (h_change_text : FnM G 1 "change_text" 1 false f_change_text) : FnM G 2 "owned_text" 1 false f_owned_text := by
  obtain ⟨f, fd, F, hm, hb⟩ := T.ex
  refine fn_ok (O' := []) (N := ["rows", "own", "change"]) (fb := s_owned_text) F ⟨rfl, rfl, rfl, by decide +kernel, rfl, by decide +kernel, by decide +kernel⟩ rfl hb hm fun cdv A outer s H E C => ?_
  have c := C.c
  exact (bm_cons (sm_ret (O' := []) (em_join c em_str (EO.em (eLcN (b := false) [("own", 1), ("change", 2)] c (im_bor c (EM.ec (em_var c 0 rfl rfl (fun _ => Or.inl rfl)))) (fun _ => rfl) (by decide +kernel) (gm_tup (CxOk.blk c _) (is := [1, 2]) (gs_cons (gm_name (CxOk.blk c _) 1 rfl rfl rfl (fun _ => Or.inl rfl)) (gs_cons (gm_name (CxOk.blk c _) 2 rfl rfl rfl (fun _ => Or.inl rfl)) gs_nil))) ts_nil (em_op (opm_add (CxOk.blk c _)) (em_op (opm_add (CxOk.blk c _)) (em_op (opm_add (CxOk.blk c _)) (em_var (CxOk.blk c _) 1 rfl rfl (fun _ => Or.inl rfl)) em_str) (em_call (CxOk.blk c _) h_change_text rfl (fun _ => rfl) (am_cons (em_var (CxOk.blk c _) 2 rfl rfl (fun _ => Or.inl rfl)) am_nil) (hln := (ln_cons ln_nil)))) em_str)))))
  b0)

theorem w_then {G : Gx} [Calm G] (T : TopD G "then" (topS 34) ["one", "other"]) (h_units_of : FnM G 1 "units_of" 1 true f_units_of) (h_of_units : FnM G 1 "of_units" 1 false f_of_units) (h_met : FnM G 1 "met" 2 false f_met) (x_NoFit : ExM G "NoFit") : FnM G 2 "then" 2 false f_then := by
  obtain ⟨f, fd, F, hm, hb⟩ := T.ex
  refine fn_ok (O' := []) (N := ["one", "other", "mine", "yours", "found"]) (fb := s_then) F ⟨rfl, rfl, rfl, by decide +kernel, rfl, by decide +kernel, by decide +kernel⟩ rfl hb hm fun cdv A outer s H E C => ?_
  have c := C.c
  exact (bm_cons (sSetO (O' := [2]) c 2 rfl (fun _ => Or.inl rfl) (eo_call c h_units_of rfl (fun _ => rfl) (am_cons (em_var c 0 rfl rfl (fun _ => Or.inl rfl)) am_nil) (hln := (ln_cons ln_nil))))
  (bm_cons (sSetO (O' := [3, 2]) c 3 rfl (fun _ => Or.inl rfl) (eo_call c h_units_of rfl (fun _ => rfl) (am_cons (em_var c 1 rfl rfl (fun _ => Or.inl rfl)) am_nil) (hln := (ln_cons ln_nil))))
  (bm_cons (sSetO (O' := [4, 3, 2]) c 4 rfl (fun _ => Or.inl rfl) (eo_lst am_nil))
  (bm_cons (sm_while C (WM.tm (wm_or (tm_cmp (cm_ne c) ne_ne' (em_var c 2 rfl rfl (fun _ => Or.inl rfl)) (em_lst am_nil) rfl) (wm_or1 (tm_cmp (cm_ne c) ne_ne' (em_var c 3 rfl rfl (fun _ => Or.inl rfl)) (em_lst am_nil) rfl)))) (bm_cons (sm_if (O' := [4, 3, 2]) (WM.tm (wm_and (tm_cmp (cm_ne c) ne_ne' (em_var c 2 rfl rfl (fun _ => Or.inl rfl)) (em_lst am_nil) rfl) (wm_and1 (tm_cmp (cm_eq c) ne_eq' (em_ix c (EM.ec (em_ix c (EM.ec (em_var c 2 rfl rfl (fun _ => Or.inl rfl))) em_int (fun _ _ => rfl))) em_int (fun _ _ => rfl)) em_str rfl)))) (bm_cons (sm_app c 4 rfl rfl (fun _ => Or.inl rfl) (xm_pop0 c 2 rfl rfl (fun _ => Or.inl rfl)))
  b0) (bm_cons (sm_if (O' := [4, 3, 2]) (WM.tm (wm_and (tm_cmp (cm_ne c) ne_ne' (em_var c 3 rfl rfl (fun _ => Or.inl rfl)) (em_lst am_nil) rfl) (wm_and1 (tm_cmp (cm_eq c) ne_eq' (em_ix c (EM.ec (em_ix c (EM.ec (em_var c 3 rfl rfl (fun _ => Or.inl rfl))) em_int (fun _ _ => rfl))) em_int (fun _ _ => rfl)) em_str rfl)))) (bm_cons (sm_app c 4 rfl rfl (fun _ => Or.inl rfl) (xm_pop0 c 3 rfl rfl (fun _ => Or.inl rfl)))
  b0) (bm_cons (sm_if (O' := [4, 3, 2]) (WM.tm (wm_or (tm_cmp (cm_eq c) ne_eq' (em_var c 2 rfl rfl (fun _ => Or.inl rfl)) (em_lst am_nil) rfl) (wm_or1 (tm_cmp (cm_eq c) ne_eq' (em_var c 3 rfl rfl (fun _ => Or.inl rfl)) (em_lst am_nil) rfl)))) (bm_cons (sm_raise (O' := [4, 3, 2]) C x_NoFit (fun _ => rfl))
  b0) (bm_cons (sm_ext c 4 rfl rfl (fun _ => Or.inl rfl) (xm_call c h_met rfl (fun _ => rfl) (xa_cons (xm_pop0 c 2 rfl rfl (fun _ => Or.inl rfl)) (xa_cons (xm_pop0 c 3 rfl rfl (fun _ => Or.inl rfl)) xa_nil)) (hln := (lnx_cons (lnx_cons lnx_nil)))))
  b0))
  b0))
  b0))
  b0))
  (bm_cons (sWk [3, 2] (sm_ret (O' := []) (em_call c h_of_units rfl (fun _ => rfl) (am_cons (em_var c 4 rfl rfl (fun _ => Or.inl rfl)) am_nil) (hln := (ln_cons ln_nil)))))
  b0)))))

theorem w__law_drawn {G : Gx} [Calm G] (T : TopD G "_law_drawn" (topS 42) ["_law_script", "_law_k", "_law_many"]) (h__law_cell : FnM G 1 "_law_cell" 2 false f__law_cell) : FnM G 2 "_law_drawn" 3 false f__law_drawn := by
  obtain ⟨f, fd, F, hm, hb⟩ := T.ex
  refine fn_ok (O' := []) (N := ["_law_script", "_law_k", "_law_many", "_law_cell_here"]) (fb := s__law_drawn) F ⟨rfl, rfl, rfl, by decide +kernel, rfl, by decide +kernel, by decide +kernel⟩ rfl hb hm fun cdv A outer s H E C => ?_
  have c := C.c
  exact (bm_cons (sSetN c 3 rfl (fun _ => Or.inl rfl) (em_op opm_mod (em_op (opm_add c) (em_op (opm_mul c) (em_op opm_mod (em_call c h__law_cell rfl (fun _ => rfl) (am_cons (em_var c 0 rfl rfl (fun _ => Or.inl rfl)) (am_cons (em_var c 1 rfl rfl (fun _ => Or.inl rfl)) am_nil)) (hln := (ln_cons (ln_cons ln_nil)))) em_int) em_int) (em_op (opm_mul c) em_int (em_op (opm_add c) (em_var c 1 rfl rfl (fun _ => Or.inl rfl)) em_int))) em_int))
  (bm_cons (sSetN c 3 rfl (fun _ => Or.inl rfl) (em_op opm_mod (em_op (opm_add c) (em_op (opm_mul c) (em_var c 3 rfl rfl (fun _ => Or.inl rfl)) (em_var c 3 rfl rfl (fun _ => Or.inl rfl))) (em_op opm_fdiv (em_var c 3 rfl rfl (fun _ => Or.inl rfl)) em_int)) em_int))
  (bm_cons (sm_ret (O' := []) (em_op opm_mod (em_op opm_fdiv (em_op opm_mod (em_op (opm_add c) (em_op (opm_mul c) (em_var c 3 rfl rfl (fun _ => Or.inl rfl)) (em_var c 3 rfl rfl (fun _ => Or.inl rfl))) (em_op opm_fdiv (em_var c 3 rfl rfl (fun _ => Or.inl rfl)) em_int)) em_int) em_int) (em_var c 2 rfl rfl (fun _ => Or.inl rfl))))
  b0)))

theorem w_is_change {G : Gx} [Calm G] (T : TopD G "is_change" (topS 8) ["thing"]) (z_isinstance : G.mg "isinstance" = none) (z_tuple : G.mg "tuple" = none) (z_all : G.mg "all" = none) (z_len : G.mg "len" = none) (h_is_part : FnM G 2 "is_part" 1 false f_is_part) (k_MOST_PARTS : ∃ t, G.mg "MOST_PARTS" = some (.int 12 t)) : FnM G 3 "is_change" 1 false f_is_change := by
  obtain ⟨f, fd, F, hm, hb⟩ := T.ex
  refine fn_ok (O' := []) (N := ["thing", "part"]) (fb := s_is_change) F ⟨rfl, rfl, rfl, by decide +kernel, rfl, by decide +kernel, by decide +kernel⟩ rfl hb hm fun cdv A outer s H E C => ?_
  have c := C.c
  exact (bm_cons (sm_ret (O' := []) (em_and (em_isi c Ty5.tuple (fun _ => rfl) z_isinstance (fun _ => rfl) z_tuple (by decide +kernel) (em_var c 0 rfl rfl (fun _ => Or.inl rfl))) (em_and (em_cmp cm_le ne_le' (em_callB c (ca_len c) (fun _ => rfl) z_len (by decide +kernel) (am_cons (em_var c 0 rfl rfl (fun _ => Or.inl rfl)) am_nil)) (em_cint c (fun _ => rfl) k_MOST_PARTS) rfl) (em_one (em_callB c (ca_all c) (fun _ => rfl) z_all (by decide +kernel) (am_cons (EO.em (eLcN (b := false) [("part", 1)] c (im_bor c (EM.ec (em_var c 0 rfl rfl (fun _ => Or.inl rfl)))) (fun _ => rfl) (by decide +kernel) (gm_name (CxOk.blk c _) 1 rfl rfl rfl (fun _ => Or.inl rfl)) ts_nil (em_call (CxOk.blk c _) h_is_part rfl (fun _ => rfl) (am_cons (em_var (CxOk.blk c _) 1 rfl rfl (fun _ => Or.inl rfl)) am_nil) (hln := (ln_cons ln_nil))))) am_nil))))))
  b0)

theorem w_fits {G : Gx} [Calm G] (T : TopD G "fits" (topS 32) ["change", "text"]) (z_len : G.mg "len" = none) (h_units_of : FnM G 1 "units_of" 1 true f_units_of) (h_before : FnM G 2 "before" 1 false f_before) : FnM G 3 "fits" 2 false f_fits := by
  obtain ⟨f, fd, F, hm, hb⟩ := T.ex
  refine fn_ok (O' := []) (N := ["change", "text", "place", "word", "sign"]) (fb := s_fits) F ⟨rfl, rfl, rfl, by decide +kernel, rfl, by decide +kernel, by decide +kernel⟩ rfl hb hm fun cdv A outer s H E C => ?_
  have c := C.c
  exact (bm_cons (sm_if (O' := []) (tm_cmp (cm_ne c) ne_ne' (em_call c h_before rfl (fun _ => rfl) (am_cons (em_var c 0 rfl rfl (fun _ => Or.inl rfl)) am_nil) (hln := (ln_cons ln_nil))) (em_callB c (ca_len c) (fun _ => rfl) z_len (by decide +kernel) (am_cons (em_var c 1 rfl rfl (fun _ => Or.inl rfl)) am_nil)) rfl) (bm_cons (sm_ret (O' := []) em_bl)
  b0) b0)
  (bm_cons (sSetN c 2 rfl (fun _ => Or.inl rfl) em_int)
  (bm_cons (sm_for (vs := [3, 4]) C tsT_ne (im_frz c (em_call c (FnM.un h_units_of) rfl (fun _ => rfl) (am_cons (em_var c 0 rfl rfl (fun _ => Or.inl rfl)) am_nil) (hln := (ln_cons ln_nil)))) (gm_tup c (is := [3, 4]) (gs_cons (gm_name c 3 rfl rfl rfl (fun _ => Or.inl rfl)) (gs_cons (gm_name c 4 rfl rfl rfl (fun _ => Or.inl rfl)) gs_nil))) (bm_cons (sm_if (O' := []) (WM.tm (wm_and (tm_cmp (cm_eq c) ne_eq' (em_var c 3 rfl rfl (fun _ => Or.inl rfl)) em_str rfl) (wm_and1 (tm_cmp (cm_ne c) ne_ne' (em_ix c (EM.ec (em_var c 1 rfl rfl (fun _ => Or.inl rfl))) (em_var c 2 rfl rfl (fun _ => Or.inl rfl)) (fun _ _ => rfl)) (em_var c 4 rfl rfl (fun _ => Or.inl rfl)) rfl)))) (bm_cons (sm_ret (O' := []) em_bl)
  b0) b0)
  (bm_cons (sm_if (O' := []) (tm_cmp (cm_ne c) ne_ne' (em_var c 3 rfl rfl (fun _ => Or.inl rfl)) em_str rfl) (bm_cons (sSetN c 2 rfl (fun _ => Or.inl rfl) (em_op (opm_add c) (em_var c 2 rfl rfl (fun _ => Or.inl rfl)) em_int))
  b0) b0)
  b0)))
  (bm_cons (sm_ret (O' := []) em_bl)
  b0))))

theorem w_squeezed {G : Gx} [Calm G] (T : TopD G "squeezed" (topS 39) ["rows"]) (h_then : FnM G 2 "then" 2 false f_then) (h_cost : FnM G 2 "cost" 1 false f_cost) (h_form : FnM G 2 "form" 1 false f_form) : FnM G 3 "squeezed" 1 false f_squeezed := by
  obtain ⟨f, fd, F, hm, hb⟩ := T.ex
  refine fn_ok (O' := []) (N := ["rows", "found", "own", "change"]) (fb := s_squeezed) F ⟨rfl, rfl, rfl, by decide +kernel, rfl, by decide +kernel, by decide +kernel⟩ rfl hb hm fun cdv A outer s H E C => ?_
  have c := C.c
  exact (bm_cons (sSetO (O' := [1]) c 1 rfl (fun _ => Or.inl rfl) (eo_lst am_nil))
  (bm_cons (sm_for (vs := [2, 3]) C tsT_ne (im_frz c (em_var c 0 rfl rfl (fun _ => Or.inl rfl))) (gm_tup c (is := [2, 3]) (gs_cons (gm_name c 2 rfl rfl rfl (fun _ => Or.inl rfl)) (gs_cons (gm_name c 3 rfl rfl rfl (fun _ => Or.inl rfl)) gs_nil))) (bm_cons (sm_if (O' := [1]) (WM.tm (wm_and (tm_cmp (cm_ne c) ne_ne' (em_var c 1 rfl rfl (fun _ => Or.inl rfl)) (em_lst am_nil) rfl) (wm_and1 (tm_cmp (cm_eq c) ne_eq' (em_ix c (EM.ec (em_ix c (EM.ec (em_var c 1 rfl rfl (fun _ => Or.inl rfl))) (em_neg em_int) (fun _ _ => rfl))) em_int (fun _ _ => rfl)) (em_var c 2 rfl rfl (fun _ => Or.inl rfl)) rfl)))) (bm_cons (sSetN c 3 rfl (fun _ => Or.inl rfl) (em_call c h_then rfl (fun _ => rfl) (am_cons (em_ix c (EM.ec (em_ix c (ec_var c 1 rfl (fun _ => Or.inl rfl)) (em_neg em_int) (fun _ _ => rfl))) em_int (fun _ _ => rfl)) (am_cons (em_var c 3 rfl rfl (fun _ => Or.inl rfl)) am_nil)) (hln := (ln_cons (ln_cons ln_nil)))))
  (bm_cons (sSetO (O' := [1]) c 1 rfl (fun _ => Or.inl rfl) (eo_sl c (ec_var c 1 rfl (fun _ => Or.inl rfl)) om_none (om_some (em_neg em_int))))
  b0)) b0)
  (bm_cons (sm_if (O' := [1]) (tm_cmp cm_gt ne_gt' (em_call c h_cost rfl (fun _ => rfl) (am_cons (em_var c 3 rfl rfl (fun _ => Or.inl rfl)) am_nil) (hln := (ln_cons ln_nil))) em_int rfl) (bm_cons (sm_app c 1 rfl rfl (fun _ => Or.inl rfl) (EM.xm (em_tup (am_cons (em_var c 2 rfl rfl (fun _ => Or.inl rfl)) (am_cons (em_call c h_form rfl (fun _ => rfl) (am_cons (em_var c 3 rfl rfl (fun _ => Or.inl rfl)) am_nil) (hln := (ln_cons ln_nil))) am_nil)))))
  b0) b0)
  b0)))
  (bm_cons (sWk [] (sm_ret (O' := []) (em_var c 1 rfl rfl (fun _ => Or.inl rfl))))
  b0)))

theorem w__law_text {G : Gx} [Calm G] (T : TopD G "_law_text" (topS 43) ["_law_script", "_law_at", "_law_most"]) (z_range : G.mg "range" = none) (h__law_drawn : FnM G 2 "_law_drawn" 3 false f__law_drawn) : FnM G 3 "_law_text" 3 false f__law_text := by
  obtain ⟨f, fd, F, hm, hb⟩ := T.ex
  refine fn_ok (O' := []) (N := ["_law_script", "_law_at", "_law_most", "_law_k"]) (fb := s__law_text) F ⟨rfl, rfl, rfl, by decide +kernel, rfl, by decide +kernel, by decide +kernel⟩ rfl hb hm fun cdv A outer s H E C => ?_
  have c := C.c
  exact (bm_cons (sm_ret (O' := []) (em_join c em_str (EO.em (eLcN (b := false) [("_law_k", 3)] c (im_rg1 c (fun _ => rfl) z_range (am_cons (em_call c h__law_drawn rfl (fun _ => rfl) (am_cons (em_var c 0 rfl rfl (fun _ => Or.inr (Or.inl rfl))) (am_cons (em_var c 1 rfl rfl (fun _ => Or.inr (Or.inl rfl))) (am_cons (em_op (opm_add c) (em_var c 2 rfl rfl (fun _ => Or.inl rfl)) em_int) am_nil))) (hln := (ln_cons (ln_cons (ln_cons ln_nil))))) am_nil)) (fun _ => rfl) (by decide +kernel) (gm_name (CxOk.blk c _) 3 rfl rfl rfl (fun _ => Or.inl rfl)) ts_nil (em_ix (CxOk.blk c _) (EM.ec em_str) (em_call (CxOk.blk c _) h__law_drawn rfl (fun _ => rfl) (am_cons (em_var (CxOk.blk c _) 0 rfl rfl (fun _ => Or.inr (Or.inl rfl))) (am_cons (em_op (opm_add (CxOk.blk c _)) (em_op (opm_add (CxOk.blk c _)) (em_var (CxOk.blk c _) 1 rfl rfl (fun _ => Or.inr (Or.inl rfl))) em_int) (em_var (CxOk.blk c _) 3 rfl rfl (fun _ => Or.inl rfl))) (am_cons em_int am_nil))) (hln := (ln_cons (ln_cons (ln_cons ln_nil))))) (fun _ _ => rfl))))))
  b0)

theorem w__law_change {G : Gx} [Calm G] (T : TopD G "_law_change" (topS 44) ["_law_script", "_law_at", "_law_text_here"]) (z_range : G.mg "range" = none) (z_len : G.mg "len" = none) (h__law_drawn : FnM G 2 "_law_drawn" 3 false f__law_drawn) : FnM G 3 "_law_change" 3 false f__law_change := by
  obtain ⟨f, fd, F, hm, hb⟩ := T.ex
  refine fn_ok (O' := []) (N := ["_law_script", "_law_at", "_law_text_here", "_law_found", "_law_k", "_law_new", "_law_is_kept"]) (fb := s__law_change) F ⟨rfl, rfl, rfl, by decide +kernel, rfl, by decide +kernel, by decide +kernel⟩ rfl hb hm fun cdv A outer s H E C => ?_
  have c := C.c
  exact (bm_cons (sSetN c 3 rfl (fun _ => Or.inl rfl) (em_tup am_nil))
  (bm_cons (sm_for (vs := [4]) C tsN_ne (im_rg1 c (fun _ => rfl) z_range (am_cons (em_op (opm_add c) (em_callB c (ca_len c) (fun _ => rfl) z_len (by decide +kernel) (am_cons (em_var c 2 rfl rfl (fun _ => Or.inl rfl)) am_nil)) em_int) am_nil)) (gm_name c 4 rfl rfl rfl (fun _ => Or.inl rfl)) (bm_cons (sm_if (O' := []) (tm_cmp (cm_eq c) ne_eq' (em_call c h__law_drawn rfl (fun _ => rfl) (am_cons (em_var c 0 rfl rfl (fun _ => Or.inl rfl)) (am_cons (em_op (opm_add c) (em_var c 1 rfl rfl (fun _ => Or.inl rfl)) (em_op (opm_mul c) em_int (em_var c 4 rfl rfl (fun _ => Or.inl rfl)))) (am_cons em_int am_nil))) (hln := (ln_cons (ln_cons (ln_cons ln_nil))))) em_int rfl) (bm_cons (sSetN c 5 rfl (fun _ => Or.inl rfl) (em_op (opm_mul c) (em_ix c (EM.ec em_str) (em_call c h__law_drawn rfl (fun _ => rfl) (am_cons (em_var c 0 rfl rfl (fun _ => Or.inl rfl)) (am_cons (em_op (opm_add c) (em_op (opm_add c) (em_var c 1 rfl rfl (fun _ => Or.inl rfl)) (em_op (opm_mul c) em_int (em_var c 4 rfl rfl (fun _ => Or.inl rfl)))) em_int) (am_cons em_int am_nil))) (hln := (ln_cons (ln_cons (ln_cons ln_nil))))) (fun _ _ => rfl)) (em_op (opm_add c) em_int (em_call c h__law_drawn rfl (fun _ => rfl) (am_cons (em_var c 0 rfl rfl (fun _ => Or.inl rfl)) (am_cons (em_op (opm_add c) (em_op (opm_add c) (em_var c 1 rfl rfl (fun _ => Or.inl rfl)) (em_op (opm_mul c) em_int (em_var c 4 rfl rfl (fun _ => Or.inl rfl)))) em_int) (am_cons em_int am_nil))) (hln := (ln_cons (ln_cons (ln_cons ln_nil))))))))
  (bm_cons (sSetN c 3 rfl (fun _ => Or.inl rfl) (em_op (opm_add c) (em_var c 3 rfl rfl (fun _ => Or.inl rfl)) (em_tup (am_cons (em_tup (am_cons em_str (am_cons (em_var c 5 rfl rfl (fun _ => Or.inl rfl)) am_nil))) am_nil))))
  b0)) b0)
  (bm_cons (sm_if (O' := []) (tm_cmp cm_lt ne_lt' (em_var c 4 rfl rfl (fun _ => Or.inl rfl)) (em_callB c (ca_len c) (fun _ => rfl) z_len (by decide +kernel) (am_cons (em_var c 2 rfl rfl (fun _ => Or.inl rfl)) am_nil)) rfl) (bm_cons (sSetN c 6 rfl (fun _ => Or.inl rfl) (em_cmp cm_gt ne_gt' (em_call c h__law_drawn rfl (fun _ => rfl) (am_cons (em_var c 0 rfl rfl (fun _ => Or.inl rfl)) (am_cons (em_op (opm_add c) (em_op (opm_add c) (em_var c 1 rfl rfl (fun _ => Or.inl rfl)) (em_op (opm_mul c) em_int (em_var c 4 rfl rfl (fun _ => Or.inl rfl)))) em_int) (am_cons em_int am_nil))) (hln := (ln_cons (ln_cons (ln_cons ln_nil))))) em_int rfl))
  (bm_cons (sSetN c 3 rfl (fun _ => Or.inl rfl) (em_op (opm_add c) (em_var c 3 rfl rfl (fun _ => Or.inl rfl)) (em_tup (am_cons (em_if (tm_val (em_var c 6 rfl rfl (fun _ => Or.inl rfl)) (fun _ _ => rfl)) (em_tup (am_cons em_str (am_cons em_int am_nil))) (em_tup (am_cons em_str (am_cons (em_ix c (EM.ec (em_var c 2 rfl rfl (fun _ => Or.inl rfl))) (em_var c 4 rfl rfl (fun _ => Or.inl rfl)) (fun _ _ => rfl)) am_nil)))) am_nil))))
  b0)) b0)
  b0)))
  (bm_cons (sm_ret (O' := []) (em_var c 3 rfl rfl (fun _ => Or.inl rfl)))
  b0)))

theorem w_read_change {G : Gx} [Calm G] (T : TopD G "read_change" (topS 24) ["text"]) (z_tuple : G.mg "tuple" = none) (h_is_change : FnM G 3 "is_change" 1 false f_is_change) (h_change_text : FnM G 1 "change_text" 1 false f_change_text) (h_part_in : FnM G 1 "part_in" 1 false f_part_in) (x_NoText : ExM G "NoText") : FnM G 4 "read_change" 1 false f_read_change := by
  obtain ⟨f, fd, F, hm, hb⟩ := T.ex
  refine fn_ok (O' := []) (N := ["text", "found", "part"]) (fb := s_read_change) F ⟨rfl, rfl, rfl, by decide +kernel, rfl, by decide +kernel, by decide +kernel⟩ rfl hb hm fun cdv A outer s H E C => ?_
  have c := C.c
  exact (bm_cons (sSetN c 1 rfl (fun _ => Or.inl rfl) (em_if (tm_cmp (cm_eq c) ne_eq' (em_var c 0 rfl rfl (fun _ => Or.inl rfl)) em_str rfl) (em_tup am_nil) (em_callT c (ca_tuple c) (fun _ => rfl) z_tuple (by decide +kernel) (am_cons (EO.em (eLcN (b := false) [("part", 2)] c (im_bor c (EM.ec (EO.em (eo_split c (em_var c 0 rfl rfl (fun _ => Or.inl rfl)) em_str)))) (fun _ => rfl) (by decide +kernel) (gm_name (CxOk.blk c _) 2 rfl rfl rfl (fun _ => Or.inl rfl)) ts_nil (em_call (CxOk.blk c _) h_part_in rfl (fun _ => rfl) (am_cons (em_var (CxOk.blk c _) 2 rfl rfl (fun _ => Or.inl rfl)) am_nil) (hln := (ln_cons ln_nil))))) am_nil))))
  (bm_cons (sm_if (O' := []) (WM.tm (wm_or (tm_not (tm_val (em_call c h_is_change rfl (fun _ => rfl) (am_cons (em_var c 1 rfl rfl (fun _ => Or.inl rfl)) am_nil) (hln := (ln_cons ln_nil))) (fun _ _ => rfl))) (wm_or1 (tm_cmp (cm_ne c) ne_ne' (em_call c h_change_text rfl (fun _ => rfl) (am_cons (em_var c 1 rfl rfl (fun _ => Or.inl rfl)) am_nil) (hln := (ln_cons ln_nil))) (em_var c 0 rfl rfl (fun _ => Or.inl rfl)) rfl)))) (bm_cons (sm_raise (O' := []) C x_NoText (fun _ => rfl))
  b0) b0)
  (bm_cons (sm_ret (O' := []) (em_var c 1 rfl rfl (fun _ => Or.inl rfl)))
  b0)))

theorem w_gone_over {G : Gx} [Calm G] (T : TopD G "gone_over" (topS 36) ["text", "rows"]) (z_len : G.mg "len" = none) (h_units_of : FnM G 1 "units_of" 1 true f_units_of) (h_fits : FnM G 3 "fits" 2 false f_fits) (x_NoFit : ExM G "NoFit") : FnM G 4 "gone_over" 2 false f_gone_over := by
  obtain ⟨f, fd, F, hm, hb⟩ := T.ex
  refine fn_ok (O' := []) (N := ["text", "rows", "marks", "gone", "own", "change", "place", "fresh", "new", "word", "sign"]) (fb := s_gone_over) F ⟨rfl, rfl, rfl, by decide +kernel, rfl, by decide +kernel, by decide +kernel⟩ rfl hb hm fun cdv A outer s H E C => ?_
  have c := C.c
  exact (bm_cons (sSetN c 2 rfl (fun _ => Or.inl rfl) (em_op (opm_mul c) (em_lst (am_cons em_non am_nil)) (em_callB c (ca_len c) (fun _ => rfl) z_len (by decide +kernel) (am_cons (em_var c 0 rfl rfl (fun _ => Or.inl rfl)) am_nil))))
  (bm_cons (sSetO (O' := [3]) c 3 rfl (fun _ => Or.inl rfl) (eo_lst am_nil))
  (bm_cons (sm_for (vs := [4, 5]) C tsT_ne (im_frz c (em_var c 1 rfl rfl (fun _ => Or.inl rfl))) (gm_tup c (is := [4, 5]) (gs_cons (gm_name c 4 rfl rfl rfl (fun _ => Or.inl rfl)) (gs_cons (gm_name c 5 rfl rfl rfl (fun _ => Or.inl rfl)) gs_nil))) (bm_cons (sm_if (O' := [3]) (tm_not (tm_val (em_call c h_fits rfl (fun _ => rfl) (am_cons (em_var c 5 rfl rfl (fun _ => Or.inl rfl)) (am_cons (em_var c 0 rfl rfl (fun _ => Or.inl rfl)) am_nil)) (hln := (ln_cons (ln_cons ln_nil)))) (fun _ _ => rfl))) (bm_cons (sm_raise (O' := [3]) C x_NoFit (fun _ => rfl))
  b0) b0)
  (bm_cons (sSetN c 6 rfl (fun _ => Or.inl rfl) em_int)
  (bm_cons (sSetO (O' := [7, 3]) c 7 rfl (fun _ => Or.inl rfl) (eo_lst am_nil))
  (bm_cons (sSetN c 8 rfl (fun _ => Or.inl rfl) em_str)
  (bm_cons (sm_for (vs := [9, 10]) C tsT_ne (im_frz c (em_call c (FnM.un h_units_of) rfl (fun _ => rfl) (am_cons (em_var c 5 rfl rfl (fun _ => Or.inl rfl)) am_nil) (hln := (ln_cons ln_nil)))) (gm_tup c (is := [9, 10]) (gs_cons (gm_name c 9 rfl rfl rfl (fun _ => Or.inl rfl)) (gs_cons (gm_name c 10 rfl rfl rfl (fun _ => Or.inl rfl)) gs_nil))) (bm_cons (sm_if (O' := [7, 3]) (tm_cmp (cm_eq c) ne_eq' (em_var c 9 rfl rfl (fun _ => Or.inl rfl)) em_str rfl) (bm_cons (sm_app c 7 rfl rfl (fun _ => Or.inl rfl) (EM.xm (em_var c 4 rfl rfl (fun _ => Or.inl rfl))))
  (bm_cons (sSetN c 8 rfl (fun _ => Or.inl rfl) (em_op (opm_add c) (em_var c 8 rfl rfl (fun _ => Or.inl rfl)) (em_var c 10 rfl rfl (fun _ => Or.inl rfl))))
  b0)) (bm_cons (sm_if (O' := [7, 3]) (tm_cmp (cm_eq c) ne_eq' (em_var c 9 rfl rfl (fun _ => Or.inl rfl)) em_str rfl) (bm_cons (sm_app c 7 rfl rfl (fun _ => Or.inl rfl) (EM.xm (em_ix c (EM.ec (em_var c 2 rfl rfl (fun _ => Or.inl rfl))) (em_var c 6 rfl rfl (fun _ => Or.inl rfl)) (fun _ _ => rfl))))
  (bm_cons (sSetN c 8 rfl (fun _ => Or.inl rfl) (em_op (opm_add c) (em_var c 8 rfl rfl (fun _ => Or.inl rfl)) (em_ix c (EM.ec (em_var c 0 rfl rfl (fun _ => Or.inl rfl))) (em_var c 6 rfl rfl (fun _ => Or.inl rfl)) (fun _ _ => rfl))))
  b0)) (bm_cons (sm_app c 3 rfl rfl (fun _ => Or.inl rfl) (EM.xm (em_ix c (EM.ec (em_var c 2 rfl rfl (fun _ => Or.inl rfl))) (em_var c 6 rfl rfl (fun _ => Or.inl rfl)) (fun _ _ => rfl))))
  b0))
  (bm_cons (sSetN c 6 rfl (fun _ => Or.inl rfl) (em_op (opm_add c) (em_var c 6 rfl rfl (fun _ => Or.inl rfl)) em_int))
  b0)))
  b0))
  (bm_cons (sWk [3] (sSetN c 2 rfl (fun _ => Or.inl rfl) (em_var c 7 rfl rfl (fun _ => Or.inl rfl))))
  (bm_cons (sSetN c 0 rfl (fun _ => Or.inl rfl) (em_var c 8 rfl rfl (fun _ => Or.inl rfl)))
  b0))))))))
  (bm_cons (sWk [] (sm_ret (O' := []) (em_tup (am_cons (em_var c 2 rfl rfl (fun _ => Or.inl rfl)) (am_cons (em_var c 3 rfl rfl (fun _ => Or.inl rfl)) (am_cons (em_var c 0 rfl rfl (fun _ => Or.inl rfl)) am_nil))))))
  b0))))

theorem w__law_small {G : Gx} [Calm G] (T : TopD G "_law_small" (topS 46) ["_law_script", "_law_at", "_law_text_here"]) (z_len : G.mg "len" = none) (h__law_drawn : FnM G 2 "_law_drawn" 3 false f__law_drawn) (h__law_change : FnM G 3 "_law_change" 3 false f__law_change) : FnM G 4 "_law_small" 3 false f__law_small := by
  obtain ⟨f, fd, F, hm, hb⟩ := T.ex
  refine fn_ok (O' := []) (N := ["_law_script", "_law_at", "_law_text_here", "_law_place", "_law_here", "_law_rest"]) (fb := s__law_small) F ⟨rfl, rfl, rfl, by decide +kernel, rfl, by decide +kernel, by decide +kernel⟩ rfl hb hm fun cdv A outer s H E C => ?_
  have c := C.c
  exact (bm_cons (sm_if (O' := []) (tm_cmp (cm_eq c) ne_eq' (em_call c h__law_drawn rfl (fun _ => rfl) (am_cons (em_var c 0 rfl rfl (fun _ => Or.inl rfl)) (am_cons (em_op (opm_add c) (em_var c 1 rfl rfl (fun _ => Or.inl rfl)) em_int) (am_cons em_int am_nil))) (hln := (ln_cons (ln_cons (ln_cons ln_nil))))) em_int rfl) (bm_cons (sm_ret (O' := []) (em_if (tm_cmp (cm_ne c) ne_ne' (em_var c 2 rfl rfl (fun _ => Or.inl rfl)) em_str rfl) (em_tup (am_cons (em_tup (am_cons em_str (am_cons (em_callB c (ca_len c) (fun _ => rfl) z_len (by decide +kernel) (am_cons (em_var c 2 rfl rfl (fun _ => Or.inl rfl)) am_nil)) am_nil))) am_nil)) (em_tup am_nil)))
  b0) b0)
  (bm_cons (sm_if (O' := []) (tm_cmp cm_lt ne_lt' (em_callB c (ca_len c) (fun _ => rfl) z_len (by decide +kernel) (am_cons (em_var c 2 rfl rfl (fun _ => Or.inl rfl)) am_nil)) em_int rfl) (bm_cons (sm_ret (O' := []) (em_call c h__law_change rfl (fun _ => rfl) (am_cons (em_var c 0 rfl rfl (fun _ => Or.inl rfl)) (am_cons (em_var c 1 rfl rfl (fun _ => Or.inl rfl)) (am_cons (em_var c 2 rfl rfl (fun _ => Or.inl rfl)) am_nil))) (hln := (ln_cons (ln_cons (ln_cons ln_nil))))))
  b0) b0)
  (bm_cons (sSetN c 3 rfl (fun _ => Or.inl rfl) (em_call c h__law_drawn rfl (fun _ => rfl) (am_cons (em_var c 0 rfl rfl (fun _ => Or.inl rfl)) (am_cons (em_op (opm_add c) (em_var c 1 rfl rfl (fun _ => Or.inl rfl)) em_int) (am_cons (em_op opm_sub (em_callB c (ca_len c) (fun _ => rfl) z_len (by decide +kernel) (am_cons (em_var c 2 rfl rfl (fun _ => Or.inl rfl)) am_nil)) em_int) am_nil))) (hln := (ln_cons (ln_cons (ln_cons ln_nil))))))
  (bm_cons (sSetN c 4 rfl (fun _ => Or.inl rfl) (em_if (tm_cmp cm_gt ne_gt' (em_var c 3 rfl rfl (fun _ => Or.inl rfl)) em_int rfl) (em_tup (am_cons (em_tup (am_cons em_str (am_cons (em_var c 3 rfl rfl (fun _ => Or.inl rfl)) am_nil))) am_nil)) (em_tup am_nil)))
  (bm_cons (sSetN c 5 rfl (fun _ => Or.inl rfl) (em_op opm_sub (em_op opm_sub (em_callB c (ca_len c) (fun _ => rfl) z_len (by decide +kernel) (am_cons (em_var c 2 rfl rfl (fun _ => Or.inl rfl)) am_nil)) (em_var c 3 rfl rfl (fun _ => Or.inl rfl))) em_int))
  (bm_cons (sm_ret (O' := []) (em_op (opm_add c) (em_op (opm_add c) (em_var c 4 rfl rfl (fun _ => Or.inl rfl)) (em_call c h__law_change rfl (fun _ => rfl) (am_cons (em_var c 0 rfl rfl (fun _ => Or.inl rfl)) (am_cons (em_var c 1 rfl rfl (fun _ => Or.inl rfl)) (am_cons (em_sl c (EM.ec (em_var c 2 rfl rfl (fun _ => Or.inl rfl))) (om_some (em_var c 3 rfl rfl (fun _ => Or.inl rfl))) (om_some (em_op (opm_add c) (em_var c 3 rfl rfl (fun _ => Or.inl rfl)) em_int))) am_nil))) (hln := (ln_cons (ln_cons (ln_cons ln_nil)))))) (em_if (tm_cmp cm_gt ne_gt' (em_var c 5 rfl rfl (fun _ => Or.inl rfl)) em_int rfl) (em_tup (am_cons (em_tup (am_cons em_str (am_cons (em_var c 5 rfl rfl (fun _ => Or.inl rfl)) am_nil))) am_nil)) (em_tup am_nil))))
  b0))))))

theorem w_read_owned {G : Gx} [Calm G] (T : TopD G "read_owned" (topS 30) ["text"]) (z_len : G.mg "len" = none) (h_owned_text : FnM G 2 "owned_text" 1 false f_owned_text) (h_is_own : FnM G 1 "is_own" 1 false f_is_own) (h_read_change : FnM G 4 "read_change" 1 false f_read_change) (x_NoText : ExM G "NoText") : FnM G 5 "read_owned" 1 false f_read_owned := by
  obtain ⟨f, fd, F, hm, hb⟩ := T.ex
  refine fn_ok (O' := []) (N := ["text", "found", "line", "words"]) (fb := s_read_owned) F ⟨rfl, rfl, rfl, by decide +kernel, rfl, by decide +kernel, by decide +kernel⟩ rfl hb hm fun cdv A outer s H E C => ?_
  have c := C.c
  exact (bm_cons (sSetO (O' := [1]) c 1 rfl (fun _ => Or.inl rfl) (eo_lst am_nil))
  (bm_cons (sm_for (vs := [2]) C tsN_ne (im_frz c (em_sl c (EM.ec (EO.em (eo_split c (em_var c 0 rfl rfl (fun _ => Or.inl rfl)) em_str))) om_none (om_some (em_neg em_int)))) (gm_name c 2 rfl rfl rfl (fun _ => Or.inl rfl)) (bm_cons (sSetN c 3 rfl (fun _ => Or.inl rfl) (EO.em (eo_split c (em_var c 2 rfl rfl (fun _ => Or.inl rfl)) em_str)))
  (bm_cons (sm_if (O' := [1]) (WM.tm (wm_or (tm_cmp (cm_ne c) ne_ne' (em_callB c (ca_len c) (fun _ => rfl) z_len (by decide +kernel) (am_cons (em_var c 3 rfl rfl (fun _ => Or.inl rfl)) am_nil)) em_int rfl) (wm_or1 (tm_not (tm_val (em_call c h_is_own rfl (fun _ => rfl) (am_cons (em_ix c (EM.ec (em_var c 3 rfl rfl (fun _ => Or.inl rfl))) em_int (fun _ _ => rfl)) am_nil) (hln := (ln_cons ln_nil))) (fun _ _ => rfl)))))) (bm_cons (sm_raise (O' := [1]) C x_NoText (fun _ => rfl))
  b0) b0)
  (bm_cons (sm_app c 1 rfl rfl (fun _ => Or.inl rfl) (EM.xm (em_tup (am_cons (em_ix c (EM.ec (em_var c 3 rfl rfl (fun _ => Or.inl rfl))) em_int (fun _ _ => rfl)) (am_cons (em_call c h_read_change rfl (fun _ => rfl) (am_cons (em_ix c (EM.ec (em_var c 3 rfl rfl (fun _ => Or.inl rfl))) em_int (fun _ _ => rfl)) am_nil) (hln := (ln_cons ln_nil))) am_nil)))))
  b0))))
  (bm_cons (sm_if (O' := [1]) (tm_cmp (cm_ne c) ne_ne' (em_call c h_owned_text rfl (fun _ => rfl) (am_cons (em_var c 1 rfl rfl (fun _ => Or.inl rfl)) am_nil) (hln := (ln_cons ln_nil))) (em_var c 0 rfl rfl (fun _ => Or.inl rfl)) rfl) (bm_cons (sm_raise (O' := [1]) C x_NoText (fun _ => rfl))
  b0) b0)
  (bm_cons (sWk [] (sm_ret (O' := []) (em_var c 1 rfl rfl (fun _ => Or.inl rfl))))
  b0))))

theorem w_owners {G : Gx} [Calm G] (T : TopD G "owners" (topS 37) ["text", "rows"]) (h_gone_over : FnM G 4 "gone_over" 2 false f_gone_over) : FnM G 5 "owners" 2 false f_owners := by
  obtain ⟨f, fd, F, hm, hb⟩ := T.ex
  refine fn_ok (O' := []) (N := ["text", "rows"]) (fb := s_owners) F ⟨rfl, rfl, rfl, by decide +kernel, rfl, by decide +kernel, by decide +kernel⟩ rfl hb hm fun cdv A outer s H E C => ?_
  have c := C.c
  exact (bm_cons (sm_ret (O' := []) (em_ix c (EM.ec (em_call c h_gone_over rfl (fun _ => rfl) (am_cons (em_var c 0 rfl rfl (fun _ => Or.inl rfl)) (am_cons (em_var c 1 rfl rfl (fun _ => Or.inl rfl)) am_nil)) (hln := (ln_cons (ln_cons ln_nil))))) em_int (fun _ _ => rfl)))
  b0)

theorem w__law_rows {G : Gx} [Calm G] (T : TopD G "_law_rows" (topS 47) ["_law_script", "_law_at", "_law_text_here", "_law_most"]) (z_range : G.mg "range" = none) (h__law_drawn : FnM G 2 "_law_drawn" 3 false f__law_drawn) (h__law_small : FnM G 4 "_law_small" 3 false f__law_small) (h__law_made : FnM G 1 "_law_made" 2 false f__law_made) : FnM G 5 "_law_rows" 4 false f__law_rows := by
  obtain ⟨f, fd, F, hm, hb⟩ := T.ex
  refine fn_ok (O' := []) (N := ["_law_script", "_law_at", "_law_text_here", "_law_most", "_law_found", "_law_k", "_law_own", "_law_change_here"]) (fb := s__law_rows) F ⟨rfl, rfl, rfl, by decide +kernel, rfl, by decide +kernel, by decide +kernel⟩ rfl hb hm fun cdv A outer s H E C => ?_
  have c := C.c
  exact (bm_cons (sSetO (O' := [4]) c 4 rfl (fun _ => Or.inl rfl) (eo_lst am_nil))
  (bm_cons (sm_for (vs := [5]) C tsN_ne (im_rg1 c (fun _ => rfl) z_range (am_cons (em_call c h__law_drawn rfl (fun _ => rfl) (am_cons (em_var c 0 rfl rfl (fun _ => Or.inl rfl)) (am_cons (em_var c 1 rfl rfl (fun _ => Or.inl rfl)) (am_cons (em_op (opm_add c) (em_var c 3 rfl rfl (fun _ => Or.inl rfl)) em_int) am_nil))) (hln := (ln_cons (ln_cons (ln_cons ln_nil))))) am_nil)) (gm_name c 5 rfl rfl rfl (fun _ => Or.inl rfl)) (bm_cons (sSetN c 6 rfl (fun _ => Or.inl rfl) (em_ix c (EM.ec (em_lst (am_cons em_str (am_cons em_str (am_cons em_str (am_cons em_str am_nil)))))) (em_call c h__law_drawn rfl (fun _ => rfl) (am_cons (em_var c 0 rfl rfl (fun _ => Or.inl rfl)) (am_cons (em_op (opm_add c) (em_op (opm_add c) (em_var c 1 rfl rfl (fun _ => Or.inl rfl)) em_int) (em_op (opm_mul c) em_int (em_var c 5 rfl rfl (fun _ => Or.inl rfl)))) (am_cons em_int am_nil))) (hln := (ln_cons (ln_cons (ln_cons ln_nil))))) (fun _ _ => rfl)))
  (bm_cons (sSetN c 7 rfl (fun _ => Or.inl rfl) (em_call c h__law_small rfl (fun _ => rfl) (am_cons (em_var c 0 rfl rfl (fun _ => Or.inl rfl)) (am_cons (em_op (opm_add c) (em_op (opm_add c) (em_var c 1 rfl rfl (fun _ => Or.inl rfl)) em_int) (em_op (opm_mul c) em_int (em_var c 5 rfl rfl (fun _ => Or.inl rfl)))) (am_cons (em_var c 2 rfl rfl (fun _ => Or.inl rfl)) am_nil))) (hln := (ln_cons (ln_cons (ln_cons ln_nil))))))
  (bm_cons (sSetN c 2 rfl (fun _ => Or.inl rfl) (em_call c h__law_made rfl (fun _ => rfl) (am_cons (em_var c 7 rfl rfl (fun _ => Or.inl rfl)) (am_cons (em_var c 2 rfl rfl (fun _ => Or.inl rfl)) am_nil)) (hln := (ln_cons (ln_cons ln_nil)))))
  (bm_cons (sm_app c 4 rfl rfl (fun _ => Or.inl rfl) (EM.xm (em_tup (am_cons (em_var c 6 rfl rfl (fun _ => Or.inl rfl)) (am_cons (em_var c 7 rfl rfl (fun _ => Or.inl rfl)) am_nil)))))
  b0)))))
  (bm_cons (sWk [] (sm_ret (O' := []) (em_var c 4 rfl rfl (fun _ => Or.inl rfl))))
  b0)))

theorem w_law {G : Gx} [Calm G] {f : Addr} {fd : FuncData} (F : Fun G.K "law" "law" (topS 48) f fd) (z_len : G.mg "len" = none) (h__law_text : FnM G 3 "_law_text" 3 false f__law_text) (h_owned_text : FnM G 2 "owned_text" 1 false f_owned_text) (h__law_drawn : FnM G 2 "_law_drawn" 3 false f__law_drawn) (h_owners : FnM G 5 "owners" 2 false f_owners) (h__law_rows : FnM G 5 "_law_rows" 4 false f__law_rows) (h_squeezed : FnM G 3 "squeezed" 1 false f_squeezed) (h_is_change : FnM G 3 "is_change" 1 false f_is_change) (h_rows_text : FnM G 2 "rows_text" 1 false f_rows_text) (h_read_owned : FnM G 5 "read_owned" 1 false f_read_owned) : FnOk G.P G.w G.K G.mg G.base (L2.CX G.P G.w) 6 f fd ["_law_script"] (spF G false 1 f_law) := by
  refine fn_okF (O' := []) (N := N_law) (fb := s_law) F ⟨rfl, rfl, rfl, by decide +kernel, rfl, by decide +kernel, by decide +kernel⟩ rfl fun cdv A outer s H E C => ?_
  have c := C.c
  exact (bm_cons (sSetN c 1 rfl (fun _ => Or.inl rfl) (em_call c h__law_text rfl (fun _ => rfl) (am_cons (em_var c 0 rfl rfl (fun _ => Or.inl rfl)) (am_cons em_int (am_cons em_int am_nil))) (hln := (ln_cons (ln_cons (ln_cons ln_nil))))))
  (bm_cons (sSetLc (b := false) (O' := [2]) [("_law_row", 8)] c rfl (fun _ => rfl) (fun _ => sw_true rfl rfl rfl (by decide +kernel)) (im_bor c (EM.ec (em_call c h__law_rows rfl (fun _ => rfl) (am_cons (em_var c 0 rfl rfl (fun _ => Or.inl rfl)) (am_cons em_int (am_cons (em_var c 1 rfl rfl (fun _ => Or.inl rfl)) (am_cons em_int am_nil)))) (hln := (ln_cons (ln_cons (ln_cons (ln_cons ln_nil)))))))) (fun _ => rfl) (by decide +kernel) (gm_name (CxOk.blk c _) 8 rfl rfl rfl (fun _ => Or.inl rfl)) ts_nil (em_var (CxOk.blk c _) 8 rfl rfl (fun _ => Or.inl rfl)))
  (bm_cons (sWk [] (sm_while C (tm_cmp (cm_ne c) ne_ne' (EO.em (eLcN (b := false) [("_law_own", 9), ("_law_change_here", 10)] c (im_bor c (EM.ec (em_var c 2 rfl rfl (fun _ => Or.inl rfl)))) (fun _ => rfl) (by decide +kernel) (gm_tup (CxOk.blk c _) (is := [9, 10]) (gs_cons (gm_name (CxOk.blk c _) 9 rfl rfl rfl (fun _ => Or.inl rfl)) (gs_cons (gm_name (CxOk.blk c _) 10 rfl rfl rfl (fun _ => Or.inl rfl)) gs_nil))) (ts_one (tm_not (tm_val (em_call (CxOk.blk c _) h_is_change rfl (fun _ => rfl) (am_cons (em_var (CxOk.blk c _) 10 rfl rfl (fun _ => Or.inl rfl)) am_nil) (hln := (ln_cons ln_nil))) (fun _ _ => rfl)))) (em_var (CxOk.blk c _) 10 rfl rfl (fun _ => Or.inl rfl)))) (em_lst am_nil) rfl) (bm_cons (sSetN c 2 rfl (fun _ => Or.inl rfl) (em_sl c (EM.ec (em_var c 2 rfl rfl (fun _ => Or.inl rfl))) om_none (om_some (em_neg em_int))))
  b0)))
  (bm_cons (sSetLc (b := false) (O' := [3]) [("_law_row", 8)] c rfl (fun _ => rfl) (fun _ => sw_true rfl rfl rfl (by decide +kernel)) (im_bor c (EM.ec (em_call c h_squeezed rfl (fun _ => rfl) (am_cons (em_var c 2 rfl rfl (fun _ => Or.inl rfl)) am_nil) (hln := (ln_cons ln_nil))))) (fun _ => rfl) (by decide +kernel) (gm_name (CxOk.blk c _) 8 rfl rfl rfl (fun _ => Or.inl rfl)) (ts_one (tm_val (em_call (CxOk.blk c _) h_is_change rfl (fun _ => rfl) (am_cons (em_ix (CxOk.blk c _) (EM.ec (em_var (CxOk.blk c _) 8 rfl rfl (fun _ => Or.inl rfl))) em_int (fun _ _ => rfl)) am_nil) (hln := (ln_cons ln_nil))) (fun _ _ => rfl))) (em_var (CxOk.blk c _) 8 rfl rfl (fun _ => Or.inl rfl)))
  (bm_cons (sWk [] (sm_for (vs := [4]) C tsN_ne (im_frz c (em_tup (am_cons (em_var c 2 rfl rfl (fun _ => Or.inl rfl)) (am_cons (em_var c 3 rfl rfl (fun _ => Or.inl rfl)) (am_cons (em_op (opm_add c) (em_var c 2 rfl rfl (fun _ => Or.inl rfl)) (em_var c 3 rfl rfl (fun _ => Or.inl rfl))) (am_cons (EO.em (eo_revL c (EM.ec (em_var c 2 rfl rfl (fun _ => Or.inl rfl))))) am_nil)))))) (gm_name c 4 rfl rfl rfl (fun _ => Or.inl rfl)) (bm_cons (sSetN c 5 rfl (fun _ => Or.inl rfl) (em_call c h_owned_text rfl (fun _ => rfl) (am_cons (em_var c 4 rfl rfl (fun _ => Or.inl rfl)) am_nil) (hln := (ln_cons ln_nil))))
  (bm_cons (sm_if (O' := []) (WM.tm (wm_or (tm_cmp (cm_ne c) ne_ne' (em_call c h_read_owned rfl (fun _ => rfl) (am_cons (em_var c 5 rfl rfl (fun _ => Or.inl rfl)) am_nil) (hln := (ln_cons ln_nil))) (em_var c 4 rfl rfl (fun _ => Or.inl rfl)) rfl) (wm_or1 (tm_cmp (cm_ne c) ne_ne' (em_callB c (ca_len c) (fun _ => rfl) z_len (by decide +kernel) (am_cons (EO.em (eo_split c (em_var c 5 rfl rfl (fun _ => Or.inl rfl)) em_str)) am_nil)) (em_op (opm_add c) (em_callB c (ca_len c) (fun _ => rfl) z_len (by decide +kernel) (am_cons (em_var c 4 rfl rfl (fun _ => Or.inl rfl)) am_nil)) em_int) rfl)))) (bm_cons (sm_ret (O' := []) em_bl)
  b0) b0)
  (bm_cons (sSetN c 6 rfl (fun _ => Or.inl rfl) (em_call c h__law_drawn rfl (fun _ => rfl) (am_cons (em_var c 0 rfl rfl (fun _ => Or.inl rfl)) (am_cons em_int (am_cons (em_op (opm_add c) (em_callB c (ca_len c) (fun _ => rfl) z_len (by decide +kernel) (am_cons (em_var c 4 rfl rfl (fun _ => Or.inl rfl)) am_nil)) em_int) am_nil))) (hln := (ln_cons (ln_cons (ln_cons ln_nil))))))
  (bm_cons (sm_if (O' := []) (tm_cmp (cm_ne c) ne_ne' (em_op (opm_add c) (em_call c h_owned_text rfl (fun _ => rfl) (am_cons (em_sl c (EM.ec (em_var c 4 rfl rfl (fun _ => Or.inl rfl))) om_none (om_some (em_var c 6 rfl rfl (fun _ => Or.inl rfl)))) am_nil) (hln := (ln_cons ln_nil))) (em_call c h_owned_text rfl (fun _ => rfl) (am_cons (em_sl c (EM.ec (em_var c 4 rfl rfl (fun _ => Or.inl rfl))) (om_some (em_var c 6 rfl rfl (fun _ => Or.inl rfl))) om_none) am_nil) (hln := (ln_cons ln_nil)))) (em_var c 5 rfl rfl (fun _ => Or.inl rfl)) rfl) (bm_cons (sm_ret (O' := []) em_bl)
  b0) b0)
  (bm_cons (sSetN c 7 rfl (fun _ => Or.inl rfl) (em_join c em_str (EO.em (eLcN (b := false) [("_law_line", 11)] c (im_bor c (EM.ec (em_sl c (EM.ec (EO.em (eo_split c (em_var c 5 rfl rfl (fun _ => Or.inl rfl)) em_str))) om_none (om_some (em_neg em_int))))) (fun _ => rfl) (by decide +kernel) (gm_name (CxOk.blk c _) 11 rfl rfl rfl (fun _ => Or.inl rfl)) ts_nil (em_op (opm_add (CxOk.blk c _)) (em_sl (CxOk.blk c _) (EM.ec (em_var (CxOk.blk c _) 11 rfl rfl (fun _ => Or.inl rfl))) (om_some (em_op (opm_add (CxOk.blk c _)) (em_indexT (CxOk.blk c _) (em_var (CxOk.blk c _) 11 rfl rfl (fun _ => Or.inl rfl)) em_str) em_int)) om_none) em_str)))))
  (bm_cons (sm_if (O' := []) (tm_cmp (cm_ne c) ne_ne' (em_var c 7 rfl rfl (fun _ => Or.inl rfl)) (em_call c h_rows_text rfl (fun _ => rfl) (am_cons (EO.em (eLcN (b := false) [("_law_own", 9), ("_law_change_here", 10)] c (im_bor c (EM.ec (em_var c 4 rfl rfl (fun _ => Or.inl rfl)))) (fun _ => rfl) (by decide +kernel) (gm_tup (CxOk.blk c _) (is := [9, 10]) (gs_cons (gm_name (CxOk.blk c _) 9 rfl rfl rfl (fun _ => Or.inl rfl)) (gs_cons (gm_name (CxOk.blk c _) 10 rfl rfl rfl (fun _ => Or.inl rfl)) gs_nil))) ts_nil (em_var (CxOk.blk c _) 10 rfl rfl (fun _ => Or.inl rfl)))) am_nil) (hln := (ln_cons ln_nil))) rfl) (bm_cons (sm_ret (O' := []) em_bl)
  b0) b0)
  b0))))))))
  (bm_cons (sm_if (O' := []) (tm_cmp (cm_ne c) ne_ne' (em_cmp (cm_eq c) ne_eq' (em_call c h_owned_text rfl (fun _ => rfl) (am_cons (em_var c 2 rfl rfl (fun _ => Or.inl rfl)) am_nil) (hln := (ln_cons ln_nil))) (em_call c h_owned_text rfl (fun _ => rfl) (am_cons (em_var c 3 rfl rfl (fun _ => Or.inl rfl)) am_nil) (hln := (ln_cons ln_nil))) rfl) (em_cmp (cm_eq c) ne_eq' (em_var c 2 rfl rfl (fun _ => Or.inl rfl)) (em_var c 3 rfl rfl (fun _ => Or.inl rfl)) rfl) rfl) (bm_cons (sm_ret (O' := []) em_bl)
  b0) b0)
  (bm_cons (sm_ret (O' := []) (em_cmp (cm_eq c) ne_eq' (em_call c h_owners rfl (fun _ => rfl) (am_cons (em_var c 1 rfl rfl (fun _ => Or.inl rfl)) (am_cons (em_call c h_read_owned rfl (fun _ => rfl) (am_cons (em_call c h_owned_text rfl (fun _ => rfl) (am_cons (em_var c 2 rfl rfl (fun _ => Or.inl rfl)) am_nil) (hln := (ln_cons ln_nil))) am_nil) (hln := (ln_cons ln_nil))) am_nil)) (hln := (ln_cons (ln_cons ln_nil)))) (em_call c h_owners rfl (fun _ => rfl) (am_cons (em_var c 1 rfl rfl (fun _ => Or.inl rfl)) (am_cons (em_var c 2 rfl rfl (fun _ => Or.inl rfl)) am_nil)) (hln := (ln_cons (ln_cons ln_nil)))) rfl))
  b0)))))))

/-! ### the end -/
theorem all_fn {P : Program} {w : World} {K : PySem.W.Frag} {mg : Str → Option Value} {base : Heap} {f : Addr} {fd : FuncData}
    (T_is_signs : TopK K mg "is_signs" (topS 6) ["thing"])
    (T_units_of : TopK K mg "units_of" (topS 9) ["change"])
    (T_of_units : TopK K mg "of_units" (topS 10) ["units"])
    (T_change_text : TopK K mg "change_text" (topS 22) ["change"])
    (T_part_in : TopK K mg "part_in" (topS 23) ["text"])
    (T_is_own : TopK K mg "is_own" (topS 28) ["thing"])
    (T_met : TopK K mg "met" (topS 33) ["one", "other"])
    (T__law_cell : TopK K mg "_law_cell" (topS 41) ["_law_script", "_law_k"])
    (T__law_made : TopK K mg "_law_made" (topS 45) ["_law_change_here", "_law_text_here"])
    (T_is_part : TopK K mg "is_part" (topS 7) ["thing"])
    (T_form : TopK K mg "form" (topS 11) ["change"])
    (T_before : TopK K mg "before" (topS 12) ["change"])
    (T_cost : TopK K mg "cost" (topS 13) ["change"])
    (T_rows_text : TopK K mg "rows_text" (topS 25) ["rows"])
    (T_owned_text : TopK K mg "owned_text" (topS 29) ["rows"])
    (T_then : TopK K mg "then" (topS 34) ["one", "other"])
    (T__law_drawn : TopK K mg "_law_drawn" (topS 42) ["_law_script", "_law_k", "_law_many"])
    (T_is_change : TopK K mg "is_change" (topS 8) ["thing"])
    (T_fits : TopK K mg "fits" (topS 32) ["change", "text"])
    (T_squeezed : TopK K mg "squeezed" (topS 39) ["rows"])
    (T__law_text : TopK K mg "_law_text" (topS 43) ["_law_script", "_law_at", "_law_most"])
    (T__law_change : TopK K mg "_law_change" (topS 44) ["_law_script", "_law_at", "_law_text_here"])
    (T_read_change : TopK K mg "read_change" (topS 24) ["text"])
    (T_gone_over : TopK K mg "gone_over" (topS 36) ["text", "rows"])
    (T__law_small : TopK K mg "_law_small" (topS 46) ["_law_script", "_law_at", "_law_text_here"])
    (T_read_owned : TopK K mg "read_owned" (topS 30) ["text"])
    (T_owners : TopK K mg "owners" (topS 37) ["text", "rows"])
    (T__law_rows : TopK K mg "_law_rows" (topS 47) ["_law_script", "_law_at", "_law_text_here", "_law_most"])
    (z_isinstance : mg "isinstance" = none)
    (z_str : mg "str" = none)
    (z_all : mg "all" = none)
    (z_tuple : mg "tuple" = none)
    (z_int : mg "int" = none)
    (z_len : mg "len" = none)
    (z_bool : mg "bool" = none)
    (z_range : mg "range" = none)
    (k_SIGNS : ∃ t, mg "SIGNS" = some (.str (Str.ofString "abcdefghijklmnopqrstuvwxyz ") t))
    (k_HEADS : WDk K w mg "HEADS" [(['k', 'e', 'e', 'p'], ['=']), (['p', 'u', 't'], ['+']), (['d', 'r', 'o', 'p'], ['-'])])
    (k_WORDS : WDk K w mg "WORDS" [(['='], ['k', 'e', 'e', 'p']), (['+'], ['p', 'u', 't']), (['-'], ['d', 'r', 'o', 'p'])])
    (k_FIGURES : ∃ t, mg "FIGURES" = some (.str (Str.ofString "0123456789") t))
    (k_MOST_LETTERS : ∃ t, mg "MOST_LETTERS" = some (.int 6 t))
    (k_LETTERS : ∃ t, mg "LETTERS" = some (.str (Str.ofString "abcdefghijklmnopqrstuvwxyz") t))
    (k_MOST_SIGNS : ∃ t, mg "MOST_SIGNS" = some (.int 8 t))
    (k_MOST_KEPT : ∃ t, mg "MOST_KEPT" = some (.int 99 t))
    (k_MOST_PARTS : ∃ t, mg "MOST_PARTS" = some (.int 12 t))
    (x_NoText : ExK K mg "NoText")
    (x_NoFit : ExK K mg "NoFit")
    (F : Fun K "law" "law" (topS 48) f fd) : FnOk P w K mg base (L2.CX P w) 6 f fd ["_law_script"] (spLaw K) := by
  let G : Gx := ⟨P, w, K, mg, base, true, fun _ _ => False⟩
  haveI : Calm G := ⟨rfl, fun _ _ h => h⟩
  have h_is_signs := w_is_signs (G := G) (TopK.d (G := G) T_is_signs) z_isinstance z_str z_all k_SIGNS
  have h_units_of := w_units_of (G := G) (TopK.d (G := G) T_units_of) 
  have h_of_units := w_of_units (G := G) (TopK.d (G := G) T_of_units) z_tuple z_int
  have h_change_text := w_change_text (G := G) (TopK.d (G := G) T_change_text) z_str k_HEADS
  have h_part_in := w_part_in (G := G) (TopK.d (G := G) T_part_in) z_int z_all z_len k_WORDS k_FIGURES (ExK.m x_NoText)
  have h_is_own := w_is_own (G := G) (TopK.d (G := G) T_is_own) z_all z_len k_MOST_LETTERS k_LETTERS
  have h_met := w_met (G := G) (TopK.d (G := G) T_met) (ExK.m x_NoFit)
  have h__law_cell := w__law_cell (G := G) (TopK.d (G := G) T__law_cell) z_len
  have h__law_made := w__law_made (G := G) (TopK.d (G := G) T__law_made) z_len
  have h_is_part := w_is_part (G := G) (TopK.d (G := G) T_is_part) z_isinstance z_tuple z_len z_str z_int z_bool h_is_signs k_MOST_SIGNS k_MOST_KEPT
  have h_form := w_form (G := G) (TopK.d (G := G) T_form) h_of_units h_units_of
  have h_before := w_before (G := G) (TopK.d (G := G) T_before) z_len h_units_of
  have h_cost := w_cost (G := G) (TopK.d (G := G) T_cost) z_len h_units_of
  have h_rows_text := w_rows_text (G := G) (TopK.d (G := G) T_rows_text) h_change_text
  have h_owned_text := w_owned_text (G := G) (TopK.d (G := G) T_owned_text) h_change_text
  have h_then := w_then (G := G) (TopK.d (G := G) T_then) h_units_of h_of_units h_met (ExK.m x_NoFit)
  have h__law_drawn := w__law_drawn (G := G) (TopK.d (G := G) T__law_drawn) h__law_cell
  have h_is_change := w_is_change (G := G) (TopK.d (G := G) T_is_change) z_isinstance z_tuple z_all z_len h_is_part k_MOST_PARTS
  have h_fits := w_fits (G := G) (TopK.d (G := G) T_fits) z_len h_units_of h_before
  have h_squeezed := w_squeezed (G := G) (TopK.d (G := G) T_squeezed) h_then h_cost h_form
  have h__law_text := w__law_text (G := G) (TopK.d (G := G) T__law_text) z_range h__law_drawn
  have h__law_change := w__law_change (G := G) (TopK.d (G := G) T__law_change) z_range z_len h__law_drawn
  have h_read_change := w_read_change (G := G) (TopK.d (G := G) T_read_change) z_tuple h_is_change h_change_text h_part_in (ExK.m x_NoText)
  have h_gone_over := w_gone_over (G := G) (TopK.d (G := G) T_gone_over) z_len h_units_of h_fits (ExK.m x_NoFit)
  have h__law_small := w__law_small (G := G) (TopK.d (G := G) T__law_small) z_len h__law_drawn h__law_change
  have h_read_owned := w_read_owned (G := G) (TopK.d (G := G) T_read_owned) z_len h_owned_text h_is_own h_read_change (ExK.m x_NoText)
  have h_owners := w_owners (G := G) (TopK.d (G := G) T_owners) h_gone_over
  have h__law_rows := w__law_rows (G := G) (TopK.d (G := G) T__law_rows) z_range h__law_drawn h__law_small h__law_made
  exact law_fn (G := G) (w_law (G := G) F z_len h__law_text h_owned_text h__law_drawn h_owners h__law_rows h_squeezed h_is_change h_rows_text h_read_owned) law_true
theorem all_end {l : PySem.W.OpenLaw} {w : World} {K : PySem.W.Frag} {h : Heap} {mg : Str → Option Value} {fa f : Addr} {od an : Option Addr} {sl : Array (Option Value)} {oc kV dc pm cd ct : Value} (X : K.In h) (G : h.Ns mainGlobals mg) (hfa : mg "law" = some (.ref fa))
    (T_is_signs : TopK K mg "is_signs" (topS 6) ["thing"])
    (T_units_of : TopK K mg "units_of" (topS 9) ["change"])
    (T_of_units : TopK K mg "of_units" (topS 10) ["units"])
    (T_change_text : TopK K mg "change_text" (topS 22) ["change"])
    (T_part_in : TopK K mg "part_in" (topS 23) ["text"])
    (T_is_own : TopK K mg "is_own" (topS 28) ["thing"])
    (T_met : TopK K mg "met" (topS 33) ["one", "other"])
    (T__law_cell : TopK K mg "_law_cell" (topS 41) ["_law_script", "_law_k"])
    (T__law_made : TopK K mg "_law_made" (topS 45) ["_law_change_here", "_law_text_here"])
    (T_is_part : TopK K mg "is_part" (topS 7) ["thing"])
    (T_form : TopK K mg "form" (topS 11) ["change"])
    (T_before : TopK K mg "before" (topS 12) ["change"])
    (T_cost : TopK K mg "cost" (topS 13) ["change"])
    (T_rows_text : TopK K mg "rows_text" (topS 25) ["rows"])
    (T_owned_text : TopK K mg "owned_text" (topS 29) ["rows"])
    (T_then : TopK K mg "then" (topS 34) ["one", "other"])
    (T__law_drawn : TopK K mg "_law_drawn" (topS 42) ["_law_script", "_law_k", "_law_many"])
    (T_is_change : TopK K mg "is_change" (topS 8) ["thing"])
    (T_fits : TopK K mg "fits" (topS 32) ["change", "text"])
    (T_squeezed : TopK K mg "squeezed" (topS 39) ["rows"])
    (T__law_text : TopK K mg "_law_text" (topS 43) ["_law_script", "_law_at", "_law_most"])
    (T__law_change : TopK K mg "_law_change" (topS 44) ["_law_script", "_law_at", "_law_text_here"])
    (T_read_change : TopK K mg "read_change" (topS 24) ["text"])
    (T_gone_over : TopK K mg "gone_over" (topS 36) ["text", "rows"])
    (T__law_small : TopK K mg "_law_small" (topS 46) ["_law_script", "_law_at", "_law_text_here"])
    (T_read_owned : TopK K mg "read_owned" (topS 30) ["text"])
    (T_owners : TopK K mg "owners" (topS 37) ["text", "rows"])
    (T__law_rows : TopK K mg "_law_rows" (topS 47) ["_law_script", "_law_at", "_law_text_here", "_law_most"])
    (z_isinstance : mg "isinstance" = none)
    (z_str : mg "str" = none)
    (z_all : mg "all" = none)
    (z_tuple : mg "tuple" = none)
    (z_int : mg "int" = none)
    (z_len : mg "len" = none)
    (z_bool : mg "bool" = none)
    (z_range : mg "range" = none)
    (k_SIGNS : ∃ t, mg "SIGNS" = some (.str (Str.ofString "abcdefghijklmnopqrstuvwxyz ") t))
    (k_HEADS : WDk K w mg "HEADS" [(['k', 'e', 'e', 'p'], ['=']), (['p', 'u', 't'], ['+']), (['d', 'r', 'o', 'p'], ['-'])])
    (k_WORDS : WDk K w mg "WORDS" [(['='], ['k', 'e', 'e', 'p']), (['+'], ['p', 'u', 't']), (['-'], ['d', 'r', 'o', 'p'])])
    (k_FIGURES : ∃ t, mg "FIGURES" = some (.str (Str.ofString "0123456789") t))
    (k_MOST_LETTERS : ∃ t, mg "MOST_LETTERS" = some (.int 6 t))
    (k_LETTERS : ∃ t, mg "LETTERS" = some (.str (Str.ofString "abcdefghijklmnopqrstuvwxyz") t))
    (k_MOST_SIGNS : ∃ t, mg "MOST_SIGNS" = some (.int 8 t))
    (k_MOST_KEPT : ∃ t, mg "MOST_KEPT" = some (.int 99 t))
    (k_MOST_PARTS : ∃ t, mg "MOST_PARTS" = some (.int 12 t))
    (x_NoText : ExK K mg "NoText")
    (x_NoFit : ExK K mg "NoFit")
    (a : PySem.W.nsIn K mainGlobals "law" = some (some (.ref f))) (hl : K.lookup f = some ⟨oc, od, .func (PySem.W.fnOf "law" "law" (defArgs (topS 48)) (defBody (topS 48)) (defScope (topS 48)) .none kV dc pm an cd ct), sl⟩) (c : PySem.W.codeIn K cd "law" = true) (k : PySem.W.keepIn K (.ref f) = true) :
    ∃ fd : FuncData, (∀ (s : Shared) (v : Value), BindsTo s fd ⟨[v], []⟩ [("_law_script", v)]) ∧ ∀ base : Heap, K.In base → base.Ns mainGlobals mg → FnOk l.prog w K mg base (L2.CX l.prog w) 6 fa fd ["_law_script"] (spLaw K) :=
  law_mk X G hfa a hl c k (fun s v => .of_eq rfl) fun base fd F => all_fn T_is_signs T_units_of T_of_units T_change_text T_part_in T_is_own T_met T__law_cell T__law_made T_is_part T_form T_before T_cost T_rows_text T_owned_text T_then T__law_drawn T_is_change T_fits T_squeezed T__law_text T__law_change T_read_change T_gone_over T__law_small T_read_owned T_owners T__law_rows z_isinstance z_str z_all z_tuple z_int z_len z_bool z_range k_SIGNS k_HEADS k_WORDS k_FIGURES k_MOST_LETTERS k_LETTERS k_MOST_SIGNS k_MOST_KEPT k_MOST_PARTS x_NoText x_NoFit F
end
end G81.W94
open PySem PySem.W PyProof.Rows
set_option maxRecDepth 100000 in
set_option maxHeartbeats 0 in
theorem PySem.Challenge.cw_pastways_k94_whole_owned_texts_holds : PySem.Challenge.rw_pastways_k94_whole_owned_texts.Holds := by
  w_on; o_law; k_head; (case hw => w_witness2)
  k_fill
  refine L2.walk_of (l := PySem.Challenge.rw_pastways_k94_whole_owned_texts) (n := 63) (k := 6) (x := "_law_script") (CX := fun w => L2.CX (PySem.Challenge.rw_pastways_k94_whole_owned_texts).prog w) (sp := fun w => G81.spLaw _) rfl (by decide) rfl ⟨rfl, by decide, by decide⟩ (fun w h Y => PySem.W.kIn_of Y) ?F (fun _ _ a ns hl _ hS => ⟨a, ns, rfl, hS, hl, fun _ => rfl⟩) (fun _ _ _ _ _ h => G81.no_cx h)
  case F =>
    intro w mg fa h KX G hmg
    refine' G81.W94.all_end KX G hmg ?T_is_signs ?T_units_of ?T_of_units ?T_change_text ?T_part_in ?T_is_own ?T_met ?T__law_cell ?T__law_made ?T_is_part ?T_form ?T_before ?T_cost ?T_rows_text ?T_owned_text ?T_then ?T__law_drawn ?T_is_change ?T_fits ?T_squeezed ?T__law_text ?T__law_change ?T_read_change ?T_gone_over ?T__law_small ?T_read_owned ?T_owners ?T__law_rows ?z_isinstance ?z_str ?z_all ?z_tuple ?z_int ?z_len ?z_bool ?z_range ?k_SIGNS ?k_HEADS ?k_WORDS ?k_FIGURES ?k_MOST_LETTERS ?k_LETTERS ?k_MOST_SIGNS ?k_MOST_KEPT ?k_MOST_PARTS ?x_NoText ?x_NoFit ?a ?l ?c ?k
    case T_is_signs =>
      refine' G81.topK_mk KX G ?a0 ?l0 ?c0 ?k0 (fun _ _ _ _ _ _ us hl => match us, hl with | [_], _ => rfl)
      (case a0 => k_is); (case l0 => k_is); (case c0 => k_is); (case k0 => k_is)
    case T_units_of =>
      refine' G81.topK_mk KX G ?a1 ?l1 ?c1 ?k1 (fun _ _ _ _ _ _ us hl => match us, hl with | [_], _ => rfl)
      (case a1 => k_is); (case l1 => k_is); (case c1 => k_is); (case k1 => k_is)
    case T_of_units =>
      refine' G81.topK_mk KX G ?a2 ?l2 ?c2 ?k2 (fun _ _ _ _ _ _ us hl => match us, hl with | [_], _ => rfl)
      (case a2 => k_is); (case l2 => k_is); (case c2 => k_is); (case k2 => k_is)
    case T_change_text =>
      refine' G81.topK_mk KX G ?a3 ?l3 ?c3 ?k3 (fun _ _ _ _ _ _ us hl => match us, hl with | [_], _ => rfl)
      (case a3 => k_is); (case l3 => k_is); (case c3 => k_is); (case k3 => k_is)
    case T_part_in =>
      refine' G81.topK_mk KX G ?a4 ?l4 ?c4 ?k4 (fun _ _ _ _ _ _ us hl => match us, hl with | [_], _ => rfl)
      (case a4 => k_is); (case l4 => k_is); (case c4 => k_is); (case k4 => k_is)
    case T_is_own =>
      refine' G81.topK_mk KX G ?a5 ?l5 ?c5 ?k5 (fun _ _ _ _ _ _ us hl => match us, hl with | [_], _ => rfl)
      (case a5 => k_is); (case l5 => k_is); (case c5 => k_is); (case k5 => k_is)
    case T_met =>
      refine' G81.topK_mk KX G ?a6 ?l6 ?c6 ?k6 (fun _ _ _ _ _ _ us hl => match us, hl with | [_, _], _ => rfl)
      (case a6 => k_is); (case l6 => k_is); (case c6 => k_is); (case k6 => k_is)
    case T__law_cell =>
      refine' G81.topK_mk KX G ?a7 ?l7 ?c7 ?k7 (fun _ _ _ _ _ _ us hl => match us, hl with | [_, _], _ => rfl)
      (case a7 => k_is); (case l7 => k_is); (case c7 => k_is); (case k7 => k_is)
    case T__law_made =>
      refine' G81.topK_mk KX G ?a8 ?l8 ?c8 ?k8 (fun _ _ _ _ _ _ us hl => match us, hl with | [_, _], _ => rfl)
      (case a8 => k_is); (case l8 => k_is); (case c8 => k_is); (case k8 => k_is)
    case T_is_part =>
      refine' G81.topK_mk KX G ?a9 ?l9 ?c9 ?k9 (fun _ _ _ _ _ _ us hl => match us, hl with | [_], _ => rfl)
      (case a9 => k_is); (case l9 => k_is); (case c9 => k_is); (case k9 => k_is)
    case T_form =>
      refine' G81.topK_mk KX G ?a10 ?l10 ?c10 ?k10 (fun _ _ _ _ _ _ us hl => match us, hl with | [_], _ => rfl)
      (case a10 => k_is); (case l10 => k_is); (case c10 => k_is); (case k10 => k_is)
    case T_before =>
      refine' G81.topK_mk KX G ?a11 ?l11 ?c11 ?k11 (fun _ _ _ _ _ _ us hl => match us, hl with | [_], _ => rfl)
      (case a11 => k_is); (case l11 => k_is); (case c11 => k_is); (case k11 => k_is)
    case T_cost =>
      refine' G81.topK_mk KX G ?a12 ?l12 ?c12 ?k12 (fun _ _ _ _ _ _ us hl => match us, hl with | [_], _ => rfl)
      (case a12 => k_is); (case l12 => k_is); (case c12 => k_is); (case k12 => k_is)
    case T_rows_text =>
      refine' G81.topK_mk KX G ?a13 ?l13 ?c13 ?k13 (fun _ _ _ _ _ _ us hl => match us, hl with | [_], _ => rfl)
      (case a13 => k_is); (case l13 => k_is); (case c13 => k_is); (case k13 => k_is)
    case T_owned_text =>
      refine' G81.topK_mk KX G ?a14 ?l14 ?c14 ?k14 (fun _ _ _ _ _ _ us hl => match us, hl with | [_], _ => rfl)
      (case a14 => k_is); (case l14 => k_is); (case c14 => k_is); (case k14 => k_is)
    case T_then =>
      refine' G81.topK_mk KX G ?a15 ?l15 ?c15 ?k15 (fun _ _ _ _ _ _ us hl => match us, hl with | [_, _], _ => rfl)
      (case a15 => k_is); (case l15 => k_is); (case c15 => k_is); (case k15 => k_is)
    case T__law_drawn =>
      refine' G81.topK_mk KX G ?a16 ?l16 ?c16 ?k16 (fun _ _ _ _ _ _ us hl => match us, hl with | [_, _, _], _ => rfl)
      (case a16 => k_is); (case l16 => k_is); (case c16 => k_is); (case k16 => k_is)
    case T_is_change =>
      refine' G81.topK_mk KX G ?a17 ?l17 ?c17 ?k17 (fun _ _ _ _ _ _ us hl => match us, hl with | [_], _ => rfl)
      (case a17 => k_is); (case l17 => k_is); (case c17 => k_is); (case k17 => k_is)
    case T_fits =>
      refine' G81.topK_mk KX G ?a18 ?l18 ?c18 ?k18 (fun _ _ _ _ _ _ us hl => match us, hl with | [_, _], _ => rfl)
      (case a18 => k_is); (case l18 => k_is); (case c18 => k_is); (case k18 => k_is)
    case T_squeezed =>
      refine' G81.topK_mk KX G ?a19 ?l19 ?c19 ?k19 (fun _ _ _ _ _ _ us hl => match us, hl with | [_], _ => rfl)
      (case a19 => k_is); (case l19 => k_is); (case c19 => k_is); (case k19 => k_is)
    case T__law_text =>
      refine' G81.topK_mk KX G ?a20 ?l20 ?c20 ?k20 (fun _ _ _ _ _ _ us hl => match us, hl with | [_, _, _], _ => rfl)
      (case a20 => k_is); (case l20 => k_is); (case c20 => k_is); (case k20 => k_is)
    case T__law_change =>
      refine' G81.topK_mk KX G ?a21 ?l21 ?c21 ?k21 (fun _ _ _ _ _ _ us hl => match us, hl with | [_, _, _], _ => rfl)
      (case a21 => k_is); (case l21 => k_is); (case c21 => k_is); (case k21 => k_is)
    case T_read_change =>
      refine' G81.topK_mk KX G ?a22 ?l22 ?c22 ?k22 (fun _ _ _ _ _ _ us hl => match us, hl with | [_], _ => rfl)
      (case a22 => k_is); (case l22 => k_is); (case c22 => k_is); (case k22 => k_is)
    case T_gone_over =>
      refine' G81.topK_mk KX G ?a23 ?l23 ?c23 ?k23 (fun _ _ _ _ _ _ us hl => match us, hl with | [_, _], _ => rfl)
      (case a23 => k_is); (case l23 => k_is); (case c23 => k_is); (case k23 => k_is)
    case T__law_small =>
      refine' G81.topK_mk KX G ?a24 ?l24 ?c24 ?k24 (fun _ _ _ _ _ _ us hl => match us, hl with | [_, _, _], _ => rfl)
      (case a24 => k_is); (case l24 => k_is); (case c24 => k_is); (case k24 => k_is)
    case T_read_owned =>
      refine' G81.topK_mk KX G ?a25 ?l25 ?c25 ?k25 (fun _ _ _ _ _ _ us hl => match us, hl with | [_], _ => rfl)
      (case a25 => k_is); (case l25 => k_is); (case c25 => k_is); (case k25 => k_is)
    case T_owners =>
      refine' G81.topK_mk KX G ?a26 ?l26 ?c26 ?k26 (fun _ _ _ _ _ _ us hl => match us, hl with | [_, _], _ => rfl)
      (case a26 => k_is); (case l26 => k_is); (case c26 => k_is); (case k26 => k_is)
    case T__law_rows =>
      refine' G81.topK_mk KX G ?a27 ?l27 ?c27 ?k27 (fun _ _ _ _ _ _ us hl => match us, hl with | [_, _, _, _], _ => rfl)
      (case a27 => k_is); (case l27 => k_is); (case c27 => k_is); (case k27 => k_is)
    case z_isinstance =>
      refine' PySem.W.mg_none_of KX G ?_
      k_is
    case z_str =>
      refine' PySem.W.mg_none_of KX G ?_
      k_is
    case z_all =>
      refine' PySem.W.mg_none_of KX G ?_
      k_is
    case z_tuple =>
      refine' PySem.W.mg_none_of KX G ?_
      k_is
    case z_int =>
      refine' PySem.W.mg_none_of KX G ?_
      k_is
    case z_len =>
      refine' PySem.W.mg_none_of KX G ?_
      k_is
    case z_bool =>
      refine' PySem.W.mg_none_of KX G ?_
      k_is
    case z_range =>
      refine' PySem.W.mg_none_of KX G ?_
      k_is
    case k_SIGNS =>
      refine' G81.k_str (PySem.W.mg_of KX G ?ke_SIGNS) ?kq_SIGNS
      (case ke_SIGNS => k_is)
      (case kq_SIGNS => decide +kernel)
    case k_HEADS =>
      refine' G81.wdk_mk KX G ?kn_HEADS ?kl_HEADS ?kk_HEADS ?ko_HEADS ?ke_HEADS
      (case kn_HEADS => k_is); (case kl_HEADS => k_is); (case kk_HEADS => k_keys); (case ko_HEADS => decide); (case ke_HEADS => (repeat (first | exact True.intro | refine And.intro ⟨_, by first | rfl | with_unfolding_all rfl⟩ ?_)))
    case k_WORDS =>
      refine' G81.wdk_mk KX G ?kn_WORDS ?kl_WORDS ?kk_WORDS ?ko_WORDS ?ke_WORDS
      (case kn_WORDS => k_is); (case kl_WORDS => k_is); (case kk_WORDS => k_keys); (case ko_WORDS => decide); (case ke_WORDS => (repeat (first | exact True.intro | refine And.intro ⟨_, by first | rfl | with_unfolding_all rfl⟩ ?_)))
    case k_FIGURES =>
      refine' G81.k_str (PySem.W.mg_of KX G ?ke_FIGURES) ?kq_FIGURES
      (case ke_FIGURES => k_is)
      (case kq_FIGURES => decide +kernel)
    case k_MOST_LETTERS =>
      refine' G81.k_int (PySem.W.mg_of KX G ?ke_MOST_LETTERS)
      (case ke_MOST_LETTERS => k_is)
    case k_LETTERS =>
      refine' G81.k_str (PySem.W.mg_of KX G ?ke_LETTERS) ?kq_LETTERS
      (case ke_LETTERS => k_is)
      (case kq_LETTERS => decide +kernel)
    case k_MOST_SIGNS =>
      refine' G81.k_int (PySem.W.mg_of KX G ?ke_MOST_SIGNS)
      (case ke_MOST_SIGNS => k_is)
    case k_MOST_KEPT =>
      refine' G81.k_int (PySem.W.mg_of KX G ?ke_MOST_KEPT)
      (case ke_MOST_KEPT => k_is)
    case k_MOST_PARTS =>
      refine' G81.k_int (PySem.W.mg_of KX G ?ke_MOST_PARTS)
      (case ke_MOST_PARTS => k_is)
    case x_NoText =>
      refine' G81.exK_mk KX G ?xn0 ?xe0 ?xf0 ?xg0 ?xh0
      (case xn0 => k_is); (case xe0 => k_exc); (case xf0 => k_is); (case xg0 => k_is); (case xh0 => k_is)
    case x_NoFit =>
      refine' G81.exK_mk KX G ?xn1 ?xe1 ?xf1 ?xg1 ?xh1
      (case xn1 => k_is); (case xe1 => k_exc); (case xf1 => k_is); (case xg1 => k_is); (case xh1 => k_is)
    (case a => k_is); (case l => k_is); (case c => k_is); (case k => k_is)

