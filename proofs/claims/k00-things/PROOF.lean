import PyProof.Rows.All
import Wide.All
import OpenK.AllK
import Wide.FinOn
import HandS.ForMost
import HandS.IsInst
import HandS.Flow
import HandS.Style
import HandS.TupAny
import HandS.TupMul
import HandS.TupLe
import HandS.SortInts
import HandS.Zip
import HandS.Defaults
import KE.SortData
import HandS.More
import HandS.Words
import HandS.WordsExc
import HandS.Head0
import HandS.Head1
import HandS.Head2
import HandS.HeadEnd
import HandS.HeadHook1
import HandS.HeadHook2
import KE.KStateDown
import PySem.Challenge.RW_likethings_k00_things
set_option Elab.async false
set_option linter.all false
set_option maxRecDepth 100000
set_option maxHeartbeats 4000000
/-! Dw1: data without the heap: what an expression's and a statement's readings say over plain data. -/
namespace Dw
open PySem PySem.Spec PyProof.Rows L2

/-- plain data: never changed once made -/
inductive D where
  | non | bl (b : Bool) | int (i : Int) | str (x : Str) | ty (n : String) | tup (ds : List D) | lst (ds : List D) | ref (a : Addr)

/-- a value: data, or the k-th of the objects that may change -/
inductive Rv where
  | d (x : D) | o (k : Nat)

/-- what may change -/
inductive MO where
  | lst (ds : List D) | gone

theorem headTail {α : Type} {l : List α} {x : α} (h : l.head? = some x) : l = x :: l.tail := by
  cases l with
  | nil => cases h
  | cons y r => cases h; rfl
abbrev Env' := List (Option Rv)
abbrev Mem := List MO

def off (H : Hp) (l : List Addr) : Hp := fun a => if a ∈ l then none else H a
theorem off_some {H : Hp} {l : List Addr} {a : Addr} {o : HO} (h : off H l a = some o) : a ∉ l ∧ H a = some o := by
  unfold off at h
  by_cases e : a ∈ l
  · rw [if_pos e] at h; cases h
  · rw [if_neg e] at h; exact ⟨e, h⟩
theorem off_of {H : Hp} {l : List Addr} {a : Addr} {o : HO} (n : a ∉ l) (h : H a = some o) : off H l a = some o := by
  unfold off; rw [if_neg n]; exact h
theorem off_sub {H : Hp} {l : List Addr} : Same (off H l) H := fun _ _ h => (off_some h).2
theorem off_same {H H' : Hp} {l : List Addr} (e : Same H H') : Same (off H l) (off H' l) := fun a o h => off_of (off_some h).1 (e a o (off_some h).2)
theorem off_less {H : Hp} {l l' : List Addr} (e : ∀ a, a ∈ l' → a ∈ l) : Same (off H l) (off H l') := fun a o h => off_of (fun z => (off_some h).1 (e a z)) (off_some h).2

theorem same_t {K : PySem.W.Frag} {H H' : Hp} {a : Addr} {xs : List V} (e : Same H H') (h : SqT K H a xs) : SqT K H' a xs := by
  rcases h with (h | ⟨o, h⟩) | h
  · exact .inl (.inl (e _ _ h))
  · exact .inl (.inr ⟨o, e _ _ h⟩)
  · exact .inr h
theorem same_l {K : PySem.W.Frag} {H H' : Hp} {a : Addr} {xs : List V} (e : Same H H') (h : SqL K H a xs) : SqL K H' a xs := e.seq h
theorem same_upd {H : Hp} {p : Addr} {o : HO} (h : H p = none) : Same H (upd H p o) := fun b x e => by
  rw [upd_ne (ne_of_none e h)]; exact e

section
variable (K : PySem.W.Frag) (h : Hp)
mutual
def Rep : D → V → Prop
  | .non, v => v = .non
  | .bl b, v => v = .bl b
  | .int i, v => v = .int i
  | .str x, v => v = .str x
  | .ty n, v => v = .ty n
  | .ref a, v => v = .ref a
  | .tup ds, v => ∃ a vs, v = .ref a ∧ SqT K h a vs ∧ Reps ds vs
  | .lst ds, v => ∃ a vs, v = .ref a ∧ SqL K h a vs ∧ Reps ds vs
def Reps : List D → List V → Prop
  | [], vs => vs = []
  | d :: ds, vs => ∃ v us, vs = v :: us ∧ Rep d v ∧ Reps ds us
end
end
section
variable {K : PySem.W.Frag} {h h' : Hp}
mutual
theorem Rep.mono (e : Same h h') : ∀ (d : D) (v : V), Rep K h d v → Rep K h' d v
  | .non, _, r => r
  | .bl _, _, r => r
  | .int _, _, r => r
  | .str _, _, r => r
  | .ty _, _, r => r
  | .ref _, _, r => r
  | .tup ds, _, ⟨a, vs, e1, e2, e3⟩ => ⟨a, vs, e1, same_t e e2, Reps.mono e ds vs e3⟩
  | .lst ds, _, ⟨a, vs, e1, e2, e3⟩ => ⟨a, vs, e1, same_l e e2, Reps.mono e ds vs e3⟩
theorem Reps.mono (e : Same h h') : ∀ (ds : List D) (vs : List V), Reps K h ds vs → Reps K h' ds vs
  | [], _, r => r
  | d :: ds, _, ⟨v, us, e1, e2, e3⟩ => ⟨v, us, e1, Rep.mono e d v e2, Reps.mono e ds us e3⟩
end
theorem Reps.len : ∀ {ds : List D} {vs : List V}, Reps K h ds vs → vs.length = ds.length
  | [], _, r => by cases r; rfl
  | d :: ds, _, ⟨v, us, e1, e2, e3⟩ => by subst e1; simp [Reps.len e3]
theorem Reps.get : ∀ {ds : List D} {vs : List V} {i : Nat} {d : D}, Reps K h ds vs → ds[i]? = some d → ∃ v, vs[i]? = some v ∧ Rep K h d v
  | [], _, _, _, _, e => by simp at e
  | d :: ds, _, 0, _, ⟨v, us, e1, e2, e3⟩, e => by subst e1; simp at e; subst e; exact ⟨v, rfl, e2⟩
  | d :: ds, _, i + 1, _, ⟨v, us, e1, e2, e3⟩, e => by
    subst e1
    obtain ⟨w, q1, q2⟩ := Reps.get (i := i) e3 (by simpa using e)
    exact ⟨w, by simpa using q1, q2⟩
theorem Reps.app : ∀ {ds : List D} {vs : List V} {es : List D} {us : List V}, Reps K h ds vs → Reps K h es us → Reps K h (ds ++ es) (vs ++ us)
  | [], _, _, _, r, s => by cases r; exact s
  | d :: ds, _, _, _, ⟨v, ws, e1, e2, e3⟩, s => by subst e1; exact ⟨v, _, rfl, e2, Reps.app e3 s⟩
theorem Reps.one {d : D} {v : V} (r : Rep K h d v) : Reps K h [d] [v] := ⟨v, [], rfl, r, rfl⟩
theorem Reps.nil : Reps K h [] [] := rfl
theorem Reps.cons {d : D} {v : V} {ds : List D} {vs : List V} (r : Rep K h d v) (s : Reps K h ds vs) : Reps K h (d :: ds) (v :: vs) := ⟨v, vs, rfl, r, s⟩
theorem Reps.take : ∀ {ds : List D} {vs : List V} (n : Nat), Reps K h ds vs → Reps K h (ds.take n) (vs.take n)
  | _, _, 0, _ => by simpa using Reps.nil
  | [], _, n + 1, r => by cases r; exact rfl
  | d :: ds, _, n + 1, ⟨v, us, e1, e2, e3⟩ => by subst e1; exact ⟨v, _, rfl, e2, Reps.take n e3⟩
theorem Reps.drop : ∀ {ds : List D} {vs : List V} (n : Nat), Reps K h ds vs → Reps K h (ds.drop n) (vs.drop n)
  | _, _, 0, r => by simpa using r
  | [], _, n + 1, r => by cases r; exact rfl
  | d :: ds, _, n + 1, ⟨v, us, e1, e2, e3⟩ => by subst e1; simpa using Reps.drop n e3
theorem Reps.set {d : D} {v : V} (r : Rep K h d v) : ∀ {ds : List D} {vs : List V} (i : Nat), Reps K h ds vs → Reps K h (ds.set i d) (vs.set i v)
  | [], _, i, s => by cases s; exact rfl
  | e :: ds, _, 0, ⟨u, us, e1, e2, e3⟩ => by subst e1; exact ⟨v, us, rfl, r, e3⟩
  | e :: ds, _, i + 1, ⟨u, us, e1, e2, e3⟩ => by subst e1; exact ⟨u, _, rfl, e2, Reps.set r i e3⟩
theorem Reps.rev : ∀ {ds : List D} {vs : List V}, Reps K h ds vs → Reps K h ds.reverse vs.reverse
  | [], _, r => by cases r; exact rfl
  | d :: ds, _, ⟨v, us, e1, e2, e3⟩ => by
    subst e1
    rw [List.reverse_cons, List.reverse_cons]
    exact Reps.app (Reps.rev e3) (Reps.one e2)
theorem Reps.ints : ∀ {ns : List Int} {vs : List V}, Reps K h (ns.map D.int) vs → vs = ns.map V.int
  | [], _, r => r
  | n :: ns, _, ⟨v, us, e1, e2, e3⟩ => by subst e1; cases e2; rw [Reps.ints e3]; rfl
theorem Reps.of_ints : ∀ (ns : List Int), Reps K h (ns.map D.int) (ns.map V.int)
  | [] => rfl
  | n :: ns => ⟨_, _, rfl, rfl, Reps.of_ints ns⟩
theorem Reps.strs : ∀ {ns : List Str} {vs : List V}, Reps K h (ns.map D.str) vs → vs = ns.map V.str
  | [], _, r => r
  | n :: ns, _, ⟨v, us, e1, e2, e3⟩ => by subst e1; cases e2; rw [Reps.strs e3]; rfl
theorem Reps.of_strs : ∀ (ns : List Str), Reps K h (ns.map D.str) (ns.map V.str)
  | [] => rfl
  | n :: ns => ⟨_, _, rfl, rfl, Reps.of_strs ns⟩
theorem Reps.bls : ∀ {ns : List Bool} {vs : List V}, Reps K h (ns.map D.bl) vs → vs = ns.map V.bl
  | [], _, r => r
  | n :: ns, _, ⟨v, us, e1, e2, e3⟩ => by subst e1; cases e2; rw [Reps.bls e3]; rfl
end

/-! ### the objects that may change: their addresses A, what else is hidden S -/
section
variable (K : PySem.W.Frag) (S A : List Addr) (H : Hp)
abbrev view : Hp := off H (S ++ A)
def MOk (a : Addr) : MO → Prop
  | .lst ds => ∃ vs, H a = some (.lst vs) ∧ Reps K (view S A H) ds vs
  | .gone => ∃ o, H a = some o
def RepV : Rv → V → Prop
  | .d x, v => Rep K (view S A H) x v
  | .o k, v => ∃ a, A[k]? = some a ∧ v = .ref a
structure Sto (M : Mem) : Prop where
  len : A.length = M.length
  nd : A.Nodup
  dj : ∀ a ∈ A, a ∉ S
  trk : ∀ a ∈ S, ∃ o, H a = some o
  mem : ∀ (k : Nat) (mo : MO) (a : Addr), M[k]? = some mo → A[k]? = some a → MOk K S A H a mo
structure EnvOk (env : Env') (σ : L2.St) : Prop where
  len : σ.length = env.length
  at_ : ∀ (i : Nat) (r : Rv), env[i]? = some (some r) → ∃ v, σ[i]? = some (some v) ∧ RepV K S A H r v
/-- behind: more is there, the hidden stays -/
structure Post (A' : List Addr) (H' : Hp) : Prop where
  pre : A <+: A'
  view : Same (view S A H) (view S A' H')
  hid : ∀ a ∈ S, H' a = H a
end
section
variable {K : PySem.W.Frag} {S A A' A2 : List Addr} {H H' H2 : Hp} {M M' : Mem} {env : Env'} {σ : L2.St}
theorem Post.refl : Post S A H A H := ⟨List.prefix_refl _, Same.refl _, fun _ _ => rfl⟩
theorem Post.trans (a : Post S A H A' H') (b : Post S A' H' A2 H2) : Post S A H A2 H2 :=
  ⟨a.pre.trans b.pre, a.view.trans b.view, fun x hx => (b.hid x hx).trans (a.hid x hx)⟩
theorem RepV.mono (p : Post S A H A' H') {r : Rv} {v : V} (h : RepV K S A H r v) : RepV K S A' H' r v := by
  cases r with
  | d x => exact Rep.mono p.view x v h
  | o k =>
    obtain ⟨a, e, rfl⟩ := h
    obtain ⟨t, rfl⟩ := p.pre
    have hk : k < A.length := (List.getElem?_eq_some_iff.mp e).1
    exact ⟨a, by rw [List.getElem?_append_left hk]; exact e, rfl⟩
theorem EnvOk.mono (p : Post S A H A' H') (h : EnvOk K S A H env σ) : EnvOk K S A' H' env σ :=
  ⟨h.len, fun i r e => let ⟨v, e1, e2⟩ := h.at_ i r e; ⟨v, e1, e2.mono p⟩⟩
theorem EnvOk.set {i : Nat} {r : Rv} {v : V} (h : EnvOk K S A H env σ) (q : RepV K S A H r v) : EnvOk K S A H (env.set i (some r)) (σ.set i (some v)) := by
  refine ⟨by rw [List.length_set, List.length_set]; exact h.len, fun j s e => ?_⟩
  by_cases ij : i = j
  · subst ij
    rw [List.getElem?_set] at e
    simp only [if_true] at e
    split at e
    · rename_i hlt
      cases e
      exact ⟨v, by rw [List.getElem?_set_self (by rw [h.len]; exact hlt)], q⟩
    · cases e
  · rw [List.getElem?_set_ne ij] at e
    obtain ⟨w, e1, e2⟩ := h.at_ j s e
    exact ⟨w, by rw [List.getElem?_set_ne ij]; exact e1, e2⟩
theorem Sto.trkA (s : Sto K S A H M) : ∀ a ∈ A, ∃ o, H a = some o := fun a ha => by
  obtain ⟨k, hk, e⟩ := List.getElem_of_mem ha
  have hm : k < M.length := by rw [← s.len]; exact hk
  have q := s.mem k M[k] a (List.getElem?_eq_getElem hm) (by rw [List.getElem?_eq_getElem hk, e])
  cases z : M[k] with
  | lst ds => rw [z] at q; obtain ⟨vs, e, _⟩ := q; exact ⟨_, e⟩
  | gone => rw [z] at q; exact q
theorem Sto.trk' (s : Sto K S A H M) : ∀ a ∈ S ++ A, ∃ o, H a = some o := fun a ha => (List.mem_append.mp ha).elim (s.trk a) (s.trkA a)
theorem Sto.fresh (s : Sto K S A H M) {p : Addr} (h : H p = none) : p ∉ S ++ A := fun z => by
  obtain ⟨o, e⟩ := s.trk' p z
  rw [h] at e; cases e
/-- what is more in the heap -/
theorem Sto.grow (s : Sto K S A H M) (e : Same H H') : Sto K S A H' M := by
  refine ⟨s.len, s.nd, s.dj, fun a ha => let ⟨o, q⟩ := s.trk a ha; ⟨o, e a o q⟩, fun k mo a h1 h2 => ?_⟩
  have q := s.mem k mo a h1 h2
  cases mo with
  | lst ds => obtain ⟨vs, q1, q2⟩ := q; exact ⟨vs, e _ _ q1, Reps.mono (off_same e) _ _ q2⟩
  | gone => obtain ⟨o, q1⟩ := q; exact ⟨o, e _ _ q1⟩
theorem Sto.post (s : Sto K S A H M) (e : Same H H') : Post S A H A H' := ⟨List.prefix_refl _, off_same e, fun a ha => by
  obtain ⟨o, q⟩ := s.trk a ha
  rw [q]; exact e a o q⟩
theorem view_new {p : Addr} {o : HO} (h : H p = none) : Same (view S A H) (view S (A ++ [p]) (upd H p o)) := fun b x e => by
  obtain ⟨n, q⟩ := off_some e
  have hb : b ≠ p := ne_of_none q h
  refine off_of (fun z => ?_) (by rw [upd_ne hb]; exact q)
  rw [← List.append_assoc] at z
  rcases List.mem_append.mp z with z | z
  · exact n z
  · exact hb (by simpa using z)
/-- a new object that may change -/
theorem Sto.new (s : Sto K S A H M) {p : Addr} {o : HO} {mo : MO} (h : H p = none) (q : MOk K S (A ++ [p]) (upd H p o) p mo) : Sto K S (A ++ [p]) (upd H p o) (M ++ [mo]) ∧ Post S A H (A ++ [p]) (upd H p o) := by
  have fr := s.fresh h
  have vw : Same (view S A H) (view S (A ++ [p]) (upd H p o)) := view_new h
  refine ⟨⟨by simp [s.len], ?_, fun a ha => ?_, fun a ha => ?_, fun k m a h1 h2 => ?_⟩, ⟨List.prefix_append _ _, vw, fun a ha => ?_⟩⟩
  · rw [List.nodup_append]
    refine ⟨s.nd, by simp, fun a ha b hb e => fr (List.mem_append_right _ ?_)⟩
    have : b = p := by simpa using hb
    rw [← this, ← e]; exact ha
  · rcases List.mem_append.mp ha with ha | ha
    · exact s.dj a ha
    · have e : a = p := by simpa using ha
      subst e
      exact fun z => fr (List.mem_append_left _ z)
  · obtain ⟨u, e⟩ := s.trk a ha
    exact ⟨u, by rw [upd_ne (ne_of_none e h)]; exact e⟩
  · by_cases hk : k < A.length
    · rw [List.getElem?_append_left hk] at h2
      rw [List.getElem?_append_left (by rw [← s.len]; exact hk)] at h1
      have q1 := s.mem k m a h1 h2
      cases m with
      | lst ds => obtain ⟨vs, q2, q3⟩ := q1; exact ⟨vs, by rw [upd_ne (ne_of_none q2 h)]; exact q2, Reps.mono vw _ _ q3⟩
      | gone => obtain ⟨u, q2⟩ := q1; exact ⟨u, by rw [upd_ne (ne_of_none q2 h)]; exact q2⟩
    · have hk2 : k = A.length := by
        have := (List.getElem?_eq_some_iff.mp h2).1
        simp at this; omega
      subst hk2
      rw [List.getElem?_append_right (Nat.le_refl _)] at h2
      rw [s.len, List.getElem?_append_right (Nat.le_refl _)] at h1
      simp at h1 h2
      subst h1 h2
      exact q
  · obtain ⟨u, e⟩ := s.trk a ha
    rw [upd_ne (ne_of_none e h)]
theorem view_set {a : Addr} {o : HO} (ha : a ∈ A) : view S A (upd H a o) = view S A H := by
  funext b
  unfold view off
  by_cases e : b ∈ S ++ A
  · rw [if_pos e, if_pos e]
  · rw [if_neg e, if_neg e, upd_ne (fun z => e (List.mem_append_right _ (by rw [z]; exact ha)))]
/-- an object is changed -/
theorem Sto.set (s : Sto K S A H M) {k : Nat} {a : Addr} {o : HO} {mo : MO} (hk : A[k]? = some a) (q : MOk K S A (upd H a o) a mo) : Sto K S A (upd H a o) (M.set k mo) ∧ Post S A H A (upd H a o) := by
  have ha : a ∈ A := List.mem_of_getElem? hk
  have vw : view S A (upd H a o) = view S A H := view_set ha
  have nS : ∀ b ∈ S, b ≠ a := fun b hb e => s.dj a ha (e ▸ hb)
  refine ⟨⟨by simp [s.len], s.nd, s.dj, fun b hb => ?_, fun j m b h1 h2 => ?_⟩, ⟨List.prefix_refl _, by rw [vw]; exact Same.refl _, fun b hb => by rw [upd_ne (nS b hb)]⟩⟩
  · rw [upd_ne (nS b hb)]; exact s.trk b hb
  · by_cases hj : j = k
    · subst hj
      rw [hk] at h2; cases h2
      rw [List.getElem?_set] at h1
      simp only [if_true] at h1
      split at h1
      · cases h1; exact q
      · cases h1
    · rw [List.getElem?_set_ne (Ne.symm hj)] at h1
      have q1 := s.mem j m b h1 h2
      have hb : b ≠ a := fun e => by
        subst e
        obtain ⟨h3, e3⟩ := List.getElem?_eq_some_iff.mp h2
        obtain ⟨h4, e4⟩ := List.getElem?_eq_some_iff.mp hk
        exact hj ((List.getElem_inj s.nd).mp (e3.trans e4.symm))
      cases m with
      | lst ds => obtain ⟨vs, q2, q3⟩ := q1; exact ⟨vs, by rw [upd_ne hb]; exact q2, by rw [vw]; exact q3⟩
      | gone => obtain ⟨u, q2⟩ := q1; exact ⟨u, by rw [upd_ne hb]; exact q2⟩
end

/-! ### data that is read: also from an object that may change -/
def RepF (K : PySem.W.Frag) (H h : Hp) : D → V → Prop
  | .lst ds, v => ∃ a vs, v = .ref a ∧ SqL K H a vs ∧ Reps K h ds vs
  | d, v => Rep K h d v
def Rv.dat (M : Mem) : Rv → Option D
  | .d x => some x
  | .o k => match M[k]? with
    | some (.lst ds) => some (.lst ds)
    | _ => none
section
variable {K : PySem.W.Frag} {S A A' A2 : List Addr} {H H' H2 : Hp} {M M' : Mem} {env : Env'} {σ : L2.St}
theorem Rep.f (e : Same h H) {d : D} {v : V} (r : Rep K h d v) : RepF K H h d v := by
  cases d with
  | lst ds => obtain ⟨a, vs, e1, e2, e3⟩ := r; exact ⟨a, vs, e1, same_l e e2, e3⟩
  | _ => exact r
theorem Sto.dat (s : Sto K S A H M) {r : Rv} {v : V} {d : D} (q : RepV K S A H r v) (e : r.dat M = some d) : RepF K H (view S A H) d v := by
  cases r with
  | d x => cases e; exact Rep.f off_sub q
  | o k =>
    obtain ⟨a, e1, rfl⟩ := q
    cases hk : M[k]? with
    | none => simp [Rv.dat, hk] at e
    | some mo =>
      cases mo with
      | gone => simp [Rv.dat, hk] at e
      | lst ds =>
        simp [Rv.dat, hk] at e
        subst e
        obtain ⟨vs, q1, q2⟩ := s.mem k _ a hk e1
        exact ⟨a, vs, rfl, .inl (.inl q1), q2⟩
end
end Dw
set_option Elab.async false
set_option linter.all false
set_option maxRecDepth 100000
set_option maxHeartbeats 4000000
/-! Dw2: expressions: the judgements and the rules. -/
namespace Dw
open PySem PySem.Spec PyProof.Rows L2

abbrev Qv := Rv → Mem → Prop
abbrev WE := Env' → Mem → Qv → Prop
abbrev WT := Env' → Mem → (Bool → Mem → Prop) → Prop
abbrev WA := Env' → Mem → (List Rv → Mem → Prop) → Prop

def RepVs (K : PySem.W.Frag) (S A : List Addr) (H : Hp) : List Rv → List V → Prop
  | [], vs => vs = []
  | r :: rs, vs => ∃ v us, vs = v :: us ∧ RepV K S A H r v ∧ RepVs K S A H rs us
theorem RepVs.mono {K : PySem.W.Frag} {S A A' : List Addr} {H H' : Hp} (p : Post S A H A' H') : ∀ {rs : List Rv} {vs : List V}, RepVs K S A H rs vs → RepVs K S A' H' rs vs
  | [], _, r => r
  | _ :: _, _, ⟨v, us, e, a, b⟩ => ⟨v, us, e, a.mono p, RepVs.mono p b⟩
theorem RepVs.len {K : PySem.W.Frag} {S A : List Addr} {H : Hp} : ∀ {rs : List Rv} {vs : List V}, RepVs K S A H rs vs → vs.length = rs.length
  | [], _, r => by cases r; rfl
  | _ :: _, _, ⟨v, us, e, a, b⟩ => by subst e; simp [RepVs.len b]

def Wp (K : PySem.W.Frag) (te : TE) (env : Env') (M : Mem) (Q : Qv) : Prop :=
  ∀ (S A : List Addr) (σ : L2.St) (H : Hp) (R : VK), Sto K S A H M → EnvOk K S A H env σ →
    (∀ (v : V) (H' : Hp) (r : Rv) (M' : Mem) (A' : List Addr), Post S A H A' H' → Sto K S A' H' M' → RepV K S A' H' r v → Q r M' → R v H') → te σ H R
def WpT (K : PySem.W.Frag) (te : TT) (env : Env') (M : Mem) (Q : Bool → Mem → Prop) : Prop :=
  ∀ (S A : List Addr) (σ : L2.St) (H : Hp) (R : Bool → Hp → Prop), Sto K S A H M → EnvOk K S A H env σ →
    (∀ (b : Bool) (H' : Hp) (M' : Mem) (A' : List Addr), Post S A H A' H' → Sto K S A' H' M' → Q b M' → R b H') → te σ H R
def WpA (K : PySem.W.Frag) (te : TA) (env : Env') (M : Mem) (Q : List Rv → Mem → Prop) : Prop :=
  ∀ (S A : List Addr) (σ : L2.St) (H : Hp) (R : List V → Hp → Prop), Sto K S A H M → EnvOk K S A H env σ →
    (∀ (vs : List V) (H' : Hp) (rs : List Rv) (M' : Mem) (A' : List Addr), Post S A H A' H' → Sto K S A' H' M' → RepVs K S A' H' rs vs → Q rs M' → R vs H') → te σ H R
def Dn (K : PySem.W.Frag) (te : TE) (we : WE) : Prop := ∀ env M Q, we env M Q → Wp K te env M Q
def DnT (K : PySem.W.Frag) (te : TT) (we : WT) : Prop := ∀ env M Q, we env M Q → WpT K te env M Q
def DnA (K : PySem.W.Frag) (te : TA) (we : WA) : Prop := ∀ env M Q, we env M Q → WpA K te env M Q
/-- the expression e reads as we over data -/
def QE (X : Cx) (e : Expr) (we : WE) : Prop := ∃ te, PE X e te ∧ Dn X.K te we
def QT (X : Cx) (e : Expr) (wt : WT) : Prop := ∃ tt, PT X e tt ∧ DnT X.K tt wt
def QW (X : Cx) (e : Expr) (wt : WT) : Prop := ∃ tt, PW X e tt ∧ DnT X.K tt wt
def QA (X : Cx) (es : List Expr) (wa : WA) : Prop := ∃ ta, PA X es ta ∧ DnA X.K ta wa

/-! ### names, constants -/
def wVar (i : Nat) : WE := fun env M Q => ∃ r, env[i]? = some (some r) ∧ Q r M
def wC (d : D) : WE := fun _ M Q => Q (.d d) M
section
variable {X : Cx} {pos : Pos}
theorem qv (i : Nat) {x : Str} (hN : X.N[i]? = some x := by rfl) (hv : Vis X.env.scope x := by first | exact Or.inl rfl | exact Or.inr (Or.inl rfl) | exact Or.inr (Or.inr rfl)) (hd : (x == ("__debug__" : Str)) = false := by decide)
    (hcd : (x == ("__classdict__" : Str)) = false := by decide) : QE X (.Name x pos) (wVar i) := by
  refine ⟨_, pe_var hN hv hd hcd, fun env M Q hw S A σ H R st en k => ?_⟩
  obtain ⟨r, e, q⟩ := hw
  obtain ⟨v, e1, e2⟩ := en.at_ i r e
  exact ⟨v, e1, k v H r M A Post.refl st e2 q⟩
theorem dn_c {K : PySem.W.Frag} {v : V} {d : D} (h : ∀ h : Hp, Rep K h d v) : Dn K (tC v) (wC d) := fun env M Q hw S A σ H R st en k => k v H (.d d) M A Post.refl st (h _) hw
theorem qe_int {i : Int} {j : Nat} : QE X (.Constant (.int i) j pos) (wC (.int i)) := ⟨_, pe_int, dn_c fun _ => rfl⟩
theorem qe_bl {b : Bool} {j : Nat} : QE X (.Constant (.bool b) j pos) (wC (.bl b)) := ⟨_, pe_bl, dn_c fun _ => rfl⟩
theorem qe_non {j : Nat} : QE X (.Constant .none j pos) (wC .non) := ⟨_, pe_non, dn_c fun _ => rfl⟩
theorem qe_str {x : Str} {j : Nat} : QE X (.Constant (.str x) j pos) (wC (.str x)) := ⟨_, pe_str, dn_c fun _ => rfl⟩
theorem qe_ty {x : Str} {n : String} (hg : Gl X x) (hm : X.mg x = none) (hv : bootBuiltins x = some (.type n)) (hn : x ≠ "__name__" := by decide) (hd : (x == ("__debug__" : Str)) = false := by decide) : QE X (.Name x pos) (wC (.ty n)) :=
  ⟨_, pe_bltn (v := .ty n) hg hm hv rfl hn hd, dn_c fun _ => rfl⟩
/-- a constant of the module -/
theorem qe_glob {x : Str} {v : V} {u : Value} {d : D} (hg : Gl X x) (hm : X.mg x = some u) (r : RelV v u) (hd : ∀ h : Hp, Rep X.K h d v) (hdd : (x == ("__debug__" : Str)) = false := by decide) : QE X (.Name x pos) (wC d) :=
  ⟨_, pe_glob hg hm r hdd, dn_c hd⟩
end

theorem qe_gint {X : Cx} {pos : Pos} {x : Str} {i : Int} {t : Tok} (hg : Gl X x) (hm : X.mg x = some (.int i t)) (hdd : (x == ("__debug__" : Str)) = false := by decide) : QE X (.Name x pos) (wC (.int i)) :=
  qe_glob (v := .int i) hg hm ⟨_, rfl⟩ (fun _ => rfl) hdd
/-! ### two-place operations on data -/
/-- f says what r gives -/
def Op2 (K : PySem.W.Frag) (r : R2) (f : D → D → Option D) : Prop :=
  ∀ (S A : List Addr) (M : Mem) (H : Hp) (x y z : D) (v u : V) (R : VK), Sto K S A H M → RepF K H (view S A H) x v → RepF K H (view S A H) y u → f x y = some z →
    (∀ w H', Same H H' → Rep K (view S A H') z w → R w H') → r v u H R
def wOp (f : D → D → Option D) (wa wb : WE) : WE := fun env M Q => wa env M fun x M1 => wb env M1 fun y M2 => ∃ a, x.dat M2 = some a ∧ ∃ b, y.dat M2 = some b ∧ ∃ z, f a b = some z ∧ Q (.d z) M2
theorem dn_op {K : PySem.W.Frag} {r : R2} {f : D → D → Option D} {ta tb : TE} {wa wb : WE} (o : Op2 K r f) (ha : Dn K ta wa) (hb : Dn K tb wb) : Dn K (tOp r ta tb) (wOp f wa wb) := by
  intro env M Q hw S A σ H R st en k
  refine ha env M _ hw S A σ H _ st en fun v H1 x M1 A1 p1 s1 q1 hw1 => ?_
  refine hb env M1 _ hw1 S A1 σ H1 _ s1 (en.mono p1) fun u H2 y M2 A2 p2 s2 q2 ⟨a, ea, b, eb, z, ez, hq⟩ => ?_
  refine o S A2 M2 H2 a b z v u R s2 (s2.dat (q1.mono p2) ea) (s2.dat q2 eb) ez fun w H' sm rw => ?_
  exact k w H' (.d z) M2 A2 ((p1.trans p2).trans (s2.post sm)) (s2.grow sm) rw hq
/-- one or the other, by the data -/
theorem Op2.or {K : PySem.W.Frag} {r r' : R2} {f f' : D → D → Option D} (h : Op2 K r f) (h' : Op2 K r' f') : Op2 K (fun x y H Q => r x y H Q ∨ r' x y H Q) (fun x y => (f x y).or (f' x y)) := by
  intro S A M H x y z v u R st rx ry e k
  have e : (f x y).or (f' x y) = some z := e
  cases q : f x y with
  | some w => rw [q] at e; cases e; exact .inl (h S A M H x y z v u R st rx ry q k)
  | none => rw [q] at e; exact .inr (h' S A M H x y z v u R st rx ry (by simpa using e) k)
theorem Op2.imp {K : PySem.W.Frag} {r r' : R2} {f : D → D → Option D} (h : Op2 K r f) (i : ∀ x y H Q, r x y H Q → r' x y H Q) : Op2 K r' f :=
  fun S A M H x y z v u R st rx ry e k => i _ _ _ _ (h S A M H x y z v u R st rx ry e k)
theorem Op2.sub {K : PySem.W.Frag} {r : R2} {f f' : D → D → Option D} (h : Op2 K r f) (i : ∀ x y z, f' x y = some z → f x y = some z) : Op2 K r f' :=
  fun S A M H x y z v u R st rx ry e k => h S A M H x y z v u R st rx ry (i _ _ _ e) k
theorem Op2.zero {K : PySem.W.Frag} {r : R2} : Op2 K r fun _ _ => none := fun _ _ _ _ _ _ _ _ _ _ _ _ _ e _ => by cases e

def dI2 (p : Int → Int → Bool) (g : Int → Int → D) : D → D → Option D
  | .int i, .int j => if p i j then some (g i j) else none
  | _, _ => none
theorem op2_I {K : PySem.W.Frag} {C : Int → Int → Prop} {p : Int → Int → Bool} {g : Int → Int → D} {gv : Int → Int → V} (hc : ∀ i j, p i j = true → C i j) (hg : ∀ (h : Hp) i j, Rep K h (g i j) (gv i j)) : Op2 K (rI C gv) (dI2 p g) := by
  intro S A M H x y z v u R st rx ry e k
  cases x <;> try (cases e)
  cases y <;> try (cases e)
  cases rx
  cases ry
  unfold dI2 at e
  simp only at e
  split at e
  · rename_i hp
    cases e
    exact ⟨_, _, rfl, rfl, hc _ _ hp, k _ H (Same.refl _) (hg _ _ _)⟩
  · cases e
def dI0 (g : Int → Int → D) : D → D → Option D
  | .int i, .int j => some (g i j)
  | _, _ => none
theorem op2_I0 {K : PySem.W.Frag} {g : Int → Int → D} {gv : Int → Int → V} (hg : ∀ (h : Hp) i j, Rep K h (g i j) (gv i j)) : Op2 K (rI0 gv) (dI0 g) := by
  intro S A M H x y z v u R st rx ry e k
  cases x <;> try (cases e)
  cases y <;> try (cases e)
  cases rx
  cases ry
  exact ⟨_, _, rfl, rfl, k _ H (Same.refl _) (hg _ _ _)⟩

/-! ### arithmetic -/
section
variable {X : Cx} {K : PySem.W.Frag}
def rCatS (K : PySem.W.Frag) : R2 := fun x y H Q => ∃ l b xs zs, x = .ref l ∧ y = .ref b ∧ SqL K H l xs ∧ SqL K H b zs ∧ xs.length + zs.length ≤ sizeLine ∧ ∀ p, H p = none → Q (.ref p) (upd H p (.lst (xs ++ zs)))
theorem op_catS : OpR X (binaryOp .Add) (rCatS X.K) := by
  intro pins s σ H x y v u Q I rx ry h
  obtain ⟨l, b, xs, zs, rfl, rfl, hH, hB, hz, q⟩ := h
  cases rx
  cases ry
  obtain ⟨its, r, pl, z⟩ := I.list hH
  obtain ⟨its2, r2, pl2, z2⟩ := I.list hB
  obtain ⟨⟨cls, dd, data, sl⟩, n, ho, hc, hdd, hd⟩ := pl
  obtain ⟨⟨cls2, dd2, data2, sl2⟩, n2, ho2, hc2, hdd2, hd2⟩ := pl2
  simp only at hc hd hc2 hd2
  subst hc hd hc2 hd2
  have e : its.toArray ++ its2.toArray = (its ++ its2).toArray := by simp
  refine concat_meets ⟨_, ho, rfl⟩ ⟨_, ho2, rfl⟩ noFill_list_add seq_list_add PySem.F.slot_list_add PySem.F.entry_list_add (PySem.F.args_list_add_2 _ _) (list_addW l b its.toArray its2.toArray n n2 dd dd2 sl sl2 (by simp; rw [← r.length, ← r2.length]; exact hz)) ⟨ho, ho2, ?_⟩
  rw [e]
  exact ⟨.ref _, _, I.lnew (t' := s.toks) (r.append r2) (by rw [List.length_append]; omega), rfl, q _ I.fresh⟩

/-- a fresh object in the view -/
theorem view_at {S A : List Addr} {H : Hp} {M : Mem} (st : Sto K S A H M) {p : Addr} {o : HO} (hp : H p = none) : view S A (upd H p o) p = some o := off_of (st.fresh hp) upd_same

def dAddS : D → D → Option D
  | .str a, .str b => if a.length + b.length ≤ sizeLine then some (.str (a ++ b)) else none
  | _, _ => none
def dAddT : D → D → Option D
  | .tup a, .tup b => if a.length + b.length ≤ sizeLine then some (.tup (a ++ b)) else none
  | _, _ => none
def dAddL : D → D → Option D
  | .lst a, .lst b => if a.length + b.length ≤ sizeLine then some (.lst (a ++ b)) else none
  | _, _ => none
def dAdd : D → D → Option D
  | .int i, .int j => some (.int (i + j))
  | .str a, .str b => if a.length + b.length ≤ sizeLine then some (.str (a ++ b)) else none
  | .tup a, .tup b => if a.length + b.length ≤ sizeLine then some (.tup (a ++ b)) else none
  | .lst a, .lst b => if a.length + b.length ≤ sizeLine then some (.lst (a ++ b)) else none
  | _, _ => none
theorem op2_addS : Op2 K (fun x y H Q => ∃ i j, x = .str i ∧ y = .str j ∧ i.length + j.length ≤ sizeLine ∧ Q (.str (i ++ j)) H) dAddS := by
  intro S A M H x y z v u R st rx ry e k
  cases x <;> try (cases e)
  cases y <;> try (cases e)
  cases rx; cases ry
  unfold dAddS at e
  simp only at e
  split at e
  · rename_i hz
    cases e
    exact ⟨_, _, rfl, rfl, hz, k _ H (Same.refl _) rfl⟩
  · cases e
theorem op2_addT : Op2 K (rCatA K) dAddT := by
  intro S A M H x y z v u R st rx ry e k
  cases x <;> try (cases e)
  cases y <;> try (cases e)
  rename_i as bs
  obtain ⟨a, xs, rfl, hx, rx⟩ := rx
  obtain ⟨b, ys, rfl, hy, ry⟩ := ry
  unfold dAddT at e
  simp only at e
  split at e
  · rename_i hz
    cases e
    have lx := rx.len
    have ly := ry.len
    refine ⟨a, b, xs, ys, rfl, rfl, same_t off_sub hx, same_t off_sub hy, by omega, fun h0 => ?_, fun _ h0 => ?_, fun h0 h1 p hp => ?_⟩
    · subst h0
      have : as = [] := List.eq_nil_of_length_eq_zero (by simpa using lx.symm)
      subst this
      exact k _ H (Same.refl _) ⟨b, ys, rfl, hy, ry⟩
    · subst h0
      have : bs = [] := List.eq_nil_of_length_eq_zero (by simpa using ly.symm)
      subst this
      exact k _ H (Same.refl _) ⟨a, xs, rfl, hx, by rw [List.append_nil]; exact rx⟩
    · have sm := same_upd (o := .tup (xs ++ ys)) hp
      exact k _ _ sm ⟨p, xs ++ ys, rfl, .inl (.inl (view_at st hp)), Reps.app (Reps.mono (off_same sm) _ _ rx) (Reps.mono (off_same sm) _ _ ry)⟩
  · cases e

theorem op2_addL : Op2 K (rCatS K) dAddL := by
  intro S A M H x y z v u R st rx ry e k
  cases x <;> try (cases e)
  cases y <;> try (cases e)
  rename_i as bs
  obtain ⟨a, xs, rfl, hx, rx⟩ := rx
  obtain ⟨b, ys, rfl, hy, ry⟩ := ry
  unfold dAddL at e
  simp only at e
  split at e
  · rename_i hz
    cases e
    have lx := rx.len
    have ly := ry.len
    refine ⟨a, b, xs, ys, rfl, rfl, hx, hy, by omega, fun p hp => ?_⟩
    have sm := same_upd (o := .lst (xs ++ ys)) hp
    exact k _ _ sm ⟨p, xs ++ ys, rfl, .inl (.inl (view_at st hp)), Reps.app (Reps.mono (off_same sm) _ _ rx) (Reps.mono (off_same sm) _ _ ry)⟩
  · cases e
theorem qe_add {a b : Expr} {wa wb : WE} {pos : Pos} (ha : QE X a wa) (hb : QE X b wb) : QE X (.BinOp a .Add b pos) (wOp dAdd wa wb) := by
  obtain ⟨ta, pa, da⟩ := ha
  obtain ⟨tb, pb, db⟩ := hb
  refine ⟨_, pe_op ((op_add.or op_add_str).or (op_catA.or op_catS)) pa pb, dn_op (Op2.sub (((op2_I0 (g := fun i j => .int (i + j)) fun _ _ _ => rfl).or op2_addS).or (op2_addT.or op2_addL)) fun x y z e => ?_) da db⟩
  cases x <;> cases y <;> first | exact e | (cases e; done) | (simp only [dAdd] at e; simp [dI0, dAddS, dAddT, dAddL, e])
theorem qe_sub {a b : Expr} {wa wb : WE} {pos : Pos} (ha : QE X a wa) (hb : QE X b wb) : QE X (.BinOp a .Sub b pos) (wOp (dI0 fun i j => .int (i - j)) wa wb) := by
  obtain ⟨ta, pa, da⟩ := ha
  obtain ⟨tb, pb, db⟩ := hb
  exact ⟨_, pe_op op_sub pa pb, dn_op (op2_I0 fun _ _ _ => rfl) da db⟩
instance (i j : Int) : Decidable (CMul i j) := by unfold CMul; infer_instance
instance (i j : Int) : Decidable (CDiv i j) := by unfold CDiv; infer_instance
instance (i j : Int) : Decidable (CPow i j) := by unfold CPow; infer_instance
end
end Dw
set_option Elab.async false
set_option linter.all false
set_option maxRecDepth 100000
set_option maxHeartbeats 4000000
/-! Dw3: operators, comparisons, tests, displays, subscripts, slices. -/
namespace Dw
open PySem PySem.Spec PyProof.Rows L2
def strRep (x : Str) (n : Int) : Str := ⟨(List.replicate n.toNat x.cps.toList).flatten.toArray⟩
theorem strRep_len (x : Str) (n : Int) : (strRep x n).length = n.toNat * x.length := by
  show (List.replicate n.toNat x.cps.toList).flatten.toArray.size = _
  rw [List.size_toArray, List.length_flatten, List.map_replicate, List.sum_replicate_nat]
  rfl
theorem fold_rep (l : List Nat) : ∀ (n : Nat) (a : Array Nat), (List.replicate n l.toArray).foldl (· ++ ·) a = a ++ (List.replicate n l).flatten.toArray
  | 0, a => by simp
  | n + 1, a => by
    rw [List.replicate_succ, List.foldl_cons, fold_rep l n, List.replicate_succ, List.flatten_cons]
    simp
def rRepS : R2 := fun x y H Q => ∃ z k, x = .str z ∧ y = .int k ∧ z.length ≤ 1000 ∧ -1000 ≤ k ∧ k ≤ 1000 ∧ Q (.str (strRep z k)) H
theorem op_repS {X : Cx} : OpR X (binaryOp .Mult) rRepS := by
  intro pins s σ H x y v u Q I rx ry h
  obtain ⟨z, k, rfl, rfl, h1, h2, h3, q⟩ := h
  obtain ⟨t, rfl⟩ := rx
  obtain ⟨t', rfl⟩ := ry
  refine PySem.P.mul_str ?_ (fun h4 h5 => ?_) (fun h4 h5 => ?_) ?_
  · rw [decide_eq_false (by omega), decide_eq_false (by omega)]; rfl
  · have : (1000 : Int) ≤ (2 ^ 63 - 1) / k := by
      rw [Int.le_ediv_iff_mul_le (by omega)]; omega
    omega
  · unfold Builtin.Str.tooLong
    refine decide_eq_false ?_
    have : z.length * k.toNat ≤ 1000 * 1000 := Nat.mul_le_mul h1 (by omega)
    rw [sizeLine_eq]; omega
  · have hz : (strRep z k).length ≤ sizeLine := by
      rw [strRep_len]
      have : k.toNat * z.length ≤ 1000 * 1000 := Nat.mul_le_mul (by omega) h1
      rw [sizeLine_eq]; omega
    by_cases h4 : k < 1
    · rw [if_pos h4]
      have e : strRep z k = Str.empty := by
        unfold strRep
        rw [show k.toNat = 0 by omega]; rfl
      rw [e] at q hz
      exact ⟨hz, .str Str.empty, H, I.tok _, ⟨_, rfl⟩, q⟩
    · rw [if_neg h4]
      by_cases h5 : (k == 1 || z.length == 0) = true
      · rw [if_pos h5]
        have e : strRep z k = z := by
          rw [Bool.or_eq_true] at h5
          rcases h5 with h5 | h5
          · have h6 : k = 1 := by simpa using h5
            subst h6
            unfold strRep
            show (⟨(List.replicate 1 z.cps.toList).flatten.toArray⟩ : Str) = z
            simp
          · have h6 : z.cps = #[] := by
              have h7 : z.length = 0 := by simpa using h5
              have : z.cps.size = 0 := h7
              exact Array.eq_empty_of_size_eq_zero this
            unfold strRep
            cases z
            simp at h6
            subst h6
            simp
        rw [e] at q
        exact ⟨.str z, H, I, ⟨t, rfl⟩, q⟩
      · rw [if_neg h5]
        have e : (⟨(List.replicate k.toNat z.cps).foldl (· ++ ·) #[]⟩ : Str) = strRep z k := by
          unfold strRep
          have := fold_rep z.cps.toList k.toNat #[]
          simp at this
          simp [this]
        rw [e]
        exact ⟨hz, .str (strRep z k), H, I.tok _, ⟨_, rfl⟩, q⟩
def dRepS : D → D → Option D
  | .str a, .int k => if a.length ≤ 1000 ∧ -1000 ≤ k ∧ k ≤ 1000 then some (.str (strRep a k)) else none
  | _, _ => none
theorem op2_repS {K : PySem.W.Frag} : Op2 K rRepS dRepS := by
  intro S A M H x y z v u R st rx ry e k
  cases x with
  | str as =>
    cases y with
    | int i =>
      cases rx; cases ry
      have e : (if as.length ≤ 1000 ∧ -1000 ≤ i ∧ i ≤ 1000 then some (D.str (strRep as i)) else none) = some z := e
      split at e
      · rename_i hz
        cases e
        exact ⟨as, i, rfl, rfl, hz.1, hz.2.1, hz.2.2, k _ H (Same.refl _) rfl⟩
      · cases e
    | _ => cases e
  | _ => cases e
section
variable {X : Cx} {K : PySem.W.Frag} {a b c : Expr} {wa wb wc : WE} {pos : Pos}
/-! ### more arithmetic -/
theorem qe_op1 {op : Operator} {r : R2} {f : D → D → Option D} (ho : OpR X (binaryOp op) r) (h2 : Op2 X.K r f) (ha : QE X a wa) (hb : QE X b wb) : QE X (.BinOp a op b pos) (wOp f wa wb) := by
  obtain ⟨ta, pa, da⟩ := ha
  obtain ⟨tb, pb, db⟩ := hb
  exact ⟨_, pe_op ho pa pb, dn_op h2 da db⟩
/-- a tuple times 2 .. 1000 -/
def dRepT : D → D → Option D
  | .tup a, .int k => if a ≠ [] ∧ 2 ≤ k ∧ k ≤ 1000 ∧ a.length ≤ 1000 then some (.tup (List.replicate k.toNat a).flatten) else none
  | _, _ => none
theorem Reps.rep {h : Hp} {ds : List D} {vs : List V} (r : Reps K h ds vs) : ∀ n : Nat, Reps K h (List.replicate n ds).flatten (List.replicate n vs).flatten
  | 0 => rfl
  | n + 1 => by
    rw [List.replicate_succ, List.replicate_succ, List.flatten_cons, List.flatten_cons]
    exact Reps.app r (Reps.rep r n)
theorem op2_repT : Op2 K (rRepT K) dRepT := by
  intro S A M H x y z v u R st rx ry e k
  cases x with
  | tup as =>
    cases y with
    | int i =>
      obtain ⟨l, xs, rfl, hx, rx⟩ := rx
      cases ry
      have e : (if as ≠ [] ∧ 2 ≤ i ∧ i ≤ 1000 ∧ as.length ≤ 1000 then some (D.tup (List.replicate i.toNat as).flatten) else none) = some z := e
      split at e
      · rename_i hz
        obtain ⟨h1, h2, h3, h4⟩ := hz
        cases e
        have lx := rx.len
        refine ⟨l, i, xs, rfl, rfl, same_t off_sub hx, fun z => h1 (List.eq_nil_of_length_eq_zero (by rw [← lx, z]; rfl)), h2, h3, by omega, fun p hp => ?_⟩
        have sm := same_upd (o := .tup (List.replicate i.toNat xs).flatten) hp
        exact k _ _ sm ⟨p, _, rfl, .inl (.inl (view_at st hp)), Reps.rep (Reps.mono (off_same sm) _ _ rx) _⟩
      · cases e
    | _ => cases e
  | _ => cases e
def dMul : D → D → Option D
  | .int i, .int j => if CMul i j then some (.int (i * j)) else none
  | x, y => (dRepT x y).or (dRepS x y)
theorem qe_mul (ha : QE X a wa) (hb : QE X b wb) : QE X (.BinOp a .Mult b pos) (wOp dMul wa wb) := by
  refine qe_op1 (op_mul.or (op_repT.or op_repS)) (Op2.sub ((op2_I (p := fun i j => decide (CMul i j)) (g := fun i j => .int (i * j)) (fun _ _ h => of_decide_eq_true h) fun _ _ _ => rfl).or (op2_repT.or op2_repS)) fun x y z e => ?_) ha hb
  cases x <;> cases y <;> first | exact e | (cases e; done) | (simp only [dMul] at e; simp [dI2, dRepT, dRepS, e])
def dMod : D → D → Option D := dI2 (fun _ j => decide (0 < j)) fun i j => .int (i % j)
theorem qe_mod (ha : QE X a wa) (hb : QE X b wb) : QE X (.BinOp a .Mod b pos) (wOp dMod wa wb) :=
  qe_op1 op_mod (op2_I (fun _ _ h => of_decide_eq_true h) fun _ _ _ => rfl) ha hb
def dFdiv : D → D → Option D := dI2 (fun i j => decide (CDiv i j)) fun i j => .int (i / j)
theorem qe_fdiv (ha : QE X a wa) (hb : QE X b wb) : QE X (.BinOp a .FloorDiv b pos) (wOp dFdiv wa wb) :=
  qe_op1 op_fdiv (op2_I (fun _ _ h => of_decide_eq_true h) fun _ _ _ => rfl) ha hb
def dPow : D → D → Option D := dI2 (fun i j => decide (CPow i j)) fun i j => .int (i ^ j.toNat)
theorem qe_pow (ha : QE X a wa) (hb : QE X b wb) : QE X (.BinOp a .Pow b pos) (wOp dPow wa wb) :=
  qe_op1 op_pow (op2_I (fun _ _ h => of_decide_eq_true h) fun _ _ _ => rfl) ha hb
/-- -a -/
def wNeg (wa : WE) : WE := fun env M Q => wa env M fun x M1 => ∃ i, x = .d (.int i) ∧ Q (.d (.int (-i))) M1
theorem qe_neg (ha : QE X a wa) : QE X (.UnaryOp .USub a pos) (wNeg wa) := by
  obtain ⟨ta, pa, da⟩ := ha
  refine ⟨_, pe_un un_neg pa, fun env M Q hw S A σ H R st en k => ?_⟩
  refine da env M _ hw S A σ H _ st en fun v H1 x M1 A1 p1 s1 q1 ⟨i, e, hq⟩ => ?_
  subst e
  cases q1
  exact ⟨i, rfl, k (.int (-i)) H1 (.d (.int (-i))) M1 A1 p1 s1 (show V.int (-i) = V.int (-i) from rfl) hq⟩

/-! ### comparisons -/
theorem qe_cmp1 {op : CmpOp} {r : R2} {f : D → D → Option D} (ho : OpR X (compareOp op) r) (h2 : Op2 X.K r f) (ha : QE X a wa) (hb : QE X b wb) (hm : behindInMarks op b = false) : QE X (.Compare a [op] [b] pos) (wOp f wa wb) := by
  obtain ⟨ta, pa, da⟩ := ha
  obtain ⟨tb, pb, db⟩ := hb
  exact ⟨_, pe_cmpR ho pa pb hm, dn_op h2 da db⟩
def dS2 (g : Str → Str → D) : D → D → Option D
  | .str i, .str j => some (g i j)
  | _, _ => none
theorem op2_S {g : Str → Str → D} {gv : Str → Str → V} (hg : ∀ (h : Hp) i j, Rep K h (g i j) (gv i j)) : Op2 K (fun x y H Q => ∃ i j, x = .str i ∧ y = .str j ∧ Q (gv i j) H) (dS2 g) := by
  intro S A M H x y z v u R st rx ry e k
  cases x <;> try (cases e)
  cases y <;> try (cases e)
  cases rx
  cases ry
  exact ⟨_, _, rfl, rfl, k _ H (Same.refl _) (hg _ _ _)⟩
def dLt : D → D → Option D
  | .int i, .int j => some (.bl (decide (i < j)))
  | .str i, .str j => some (.bl (decide (i.cps.toList < j.cps.toList)))
  | _, _ => none
def dLe : D → D → Option D
  | .int i, .int j => some (.bl (decide (i ≤ j)))
  | .str i, .str j => some (.bl (!decide (j.cps.toList < i.cps.toList)))
  | _, _ => none
def dGt : D → D → Option D
  | .int i, .int j => some (.bl (decide (j < i)))
  | .str i, .str j => some (.bl (decide (j.cps.toList < i.cps.toList)))
  | _, _ => none
def dGe : D → D → Option D
  | .int i, .int j => some (.bl (decide (j ≤ i)))
  | .str i, .str j => some (.bl (!decide (i.cps.toList < j.cps.toList)))
  | _, _ => none
theorem op2_lt : Op2 K (fun x y H Q => rI0 (fun i j => .bl (decide (i < j))) x y H Q ∨ ∃ i j, x = .str i ∧ y = .str j ∧ Q (.bl (decide (i.cps.toList < j.cps.toList))) H) dLt :=
  Op2.sub ((op2_I0 (g := fun i j => .bl (decide (i < j))) fun _ _ _ => rfl).or (op2_S (g := fun i j => .bl (decide (i.cps.toList < j.cps.toList))) fun _ _ _ => rfl)) fun x y z e => by
    cases x <;> cases y <;> first | exact e | (cases e; done)
theorem op2_le : Op2 K (fun x y H Q => rI0 (fun i j => .bl (decide (i ≤ j))) x y H Q ∨ ∃ i j, x = .str i ∧ y = .str j ∧ Q (.bl (!decide (j.cps.toList < i.cps.toList))) H) dLe :=
  Op2.sub ((op2_I0 (g := fun i j => .bl (decide (i ≤ j))) fun _ _ _ => rfl).or (op2_S (g := fun i j => .bl (!decide (j.cps.toList < i.cps.toList))) fun _ _ _ => rfl)) fun x y z e => by
    cases x <;> cases y <;> first | exact e | (cases e; done)
theorem op2_gt : Op2 K (fun x y H Q => rI0 (fun i j => .bl (decide (j < i))) x y H Q ∨ ∃ i j, x = .str i ∧ y = .str j ∧ Q (.bl (decide (j.cps.toList < i.cps.toList))) H) dGt :=
  Op2.sub ((op2_I0 (g := fun i j => .bl (decide (j < i))) fun _ _ _ => rfl).or (op2_S (g := fun i j => .bl (decide (j.cps.toList < i.cps.toList))) fun _ _ _ => rfl)) fun x y z e => by
    cases x <;> cases y <;> first | exact e | (cases e; done)
theorem op2_ge : Op2 K (fun x y H Q => rI0 (fun i j => .bl (decide (j ≤ i))) x y H Q ∨ ∃ i j, x = .str i ∧ y = .str j ∧ Q (.bl (!decide (i.cps.toList < j.cps.toList))) H) dGe :=
  Op2.sub ((op2_I0 (g := fun i j => .bl (decide (j ≤ i))) fun _ _ _ => rfl).or (op2_S (g := fun i j => .bl (!decide (i.cps.toList < j.cps.toList))) fun _ _ _ => rfl)) fun x y z e => by
    cases x <;> cases y <;> first | exact e | (cases e; done)
theorem or_lt : OpR X (compareOp .Lt) (fun x y H Q => rI0 (fun i j => .bl (decide (i < j))) x y H Q ∨ ∃ i j, x = .str i ∧ y = .str j ∧ Q (.bl (decide (i.cps.toList < j.cps.toList))) H) := op_lt.or op_lt_str
theorem or_le : OpR X (compareOp .LtE) (fun x y H Q => rI0 (fun i j => .bl (decide (i ≤ j))) x y H Q ∨ ∃ i j, x = .str i ∧ y = .str j ∧ Q (.bl (!decide (j.cps.toList < i.cps.toList))) H) := op_le.or op_le_str
theorem or_gt : OpR X (compareOp .Gt) (fun x y H Q => rI0 (fun i j => .bl (decide (j < i))) x y H Q ∨ ∃ i j, x = .str i ∧ y = .str j ∧ Q (.bl (decide (j.cps.toList < i.cps.toList))) H) := op_gt.or op_gt_str
theorem or_ge : OpR X (compareOp .GtE) (fun x y H Q => rI0 (fun i j => .bl (decide (j ≤ i))) x y H Q ∨ ∃ i j, x = .str i ∧ y = .str j ∧ Q (.bl (!decide (i.cps.toList < j.cps.toList))) H) := op_ge.or op_ge_str
theorem qe_lt (ha : QE X a wa) (hb : QE X b wb) : QE X (.Compare a [.Lt] [b] pos) (wOp dLt wa wb) := qe_cmp1 or_lt op2_lt ha hb (nomark _)
theorem qe_le (ha : QE X a wa) (hb : QE X b wb) : QE X (.Compare a [.LtE] [b] pos) (wOp dLe wa wb) := qe_cmp1 or_le op2_le ha hb (nomark _)
theorem qe_gt (ha : QE X a wa) (hb : QE X b wb) : QE X (.Compare a [.Gt] [b] pos) (wOp dGt wa wb) := qe_cmp1 or_gt op2_gt ha hb (nomark _)
theorem qe_ge (ha : QE X a wa) (hb : QE X b wb) : QE X (.Compare a [.GtE] [b] pos) (wOp dGe wa wb) := qe_cmp1 or_ge op2_ge ha hb (nomark _)

/-! ### == -/
mutual
def D.py : D → Option PyData
  | .non => some .none
  | .bl b => some (.bool b)
  | .int i => some (.int i)
  | .str x => some (.str x)
  | .tup ds => (D.pys ds).map .tuple
  | .lst ds => (D.pys ds).map .list
  | .ty _ => none
  | .ref _ => none
def D.pys : List D → Option (List PyData)
  | [] => some []
  | d :: ds => match D.py d, D.pys ds with
    | some a, some b => some (a :: b)
    | _, _ => none
end
mutual
theorem Rep.dp {H h : Hp} (e : Same h H) : ∀ (d : D) (v : V) (p : PyData), Rep K h d v → d.py = some p → Dp K H v p
  | .non, _, _, r, q => by cases r; simp [D.py] at q; subst q; exact .non
  | .bl b, _, _, r, q => by cases r; simp [D.py] at q; subst q; exact .bl b
  | .int i, _, _, r, q => by cases r; simp [D.py] at q; subst q; exact .int i
  | .str x, _, _, r, q => by cases r; simp [D.py] at q; subst q; exact .str x
  | .tup ds, _, p, ⟨a, vs, e1, e2, e3⟩, q => by
    subst e1
    cases z : D.pys ds with
    | none => simp [D.py, z] at q
    | some ps => simp [D.py, z] at q; subst q; exact .tup (same_t e e2) (Reps.dp e ds vs ps e3 z)
  | .lst ds, _, p, ⟨a, vs, e1, e2, e3⟩, q => by
    subst e1
    cases z : D.pys ds with
    | none => simp [D.py, z] at q
    | some ps => simp [D.py, z] at q; subst q; exact .lst (same_l e e2) (Reps.dp e ds vs ps e3 z)
  | .ty _, _, _, _, q => by simp [D.py] at q
  | .ref _, _, _, _, q => by simp [D.py] at q
theorem Reps.dp {H h : Hp} (e : Same h H) : ∀ (ds : List D) (vs : List V) (ps : List PyData), Reps K h ds vs → D.pys ds = some ps → DpAll K H vs ps
  | [], _, _, r, q => by cases r; simp [D.pys] at q; subst q; exact .nil
  | d :: ds, _, ps, ⟨v, us, e1, e2, e3⟩, q => by
    subst e1
    cases z : D.py d with
    | none => simp [D.pys, z] at q
    | some a =>
      cases y : D.pys ds with
      | none => simp [D.pys, z, y] at q
      | some b => simp [D.pys, z, y] at q; subst q; exact .cons (Rep.dp e d v a e2 z) (Reps.dp e ds us b e3 y)
end
theorem RepF.dp {H h : Hp} (e : Same h H) {d : D} {v : V} {p : PyData} (r : RepF K H h d v) (q : d.py = some p) : Dp K H v p := by
  cases d with
  | lst ds =>
    obtain ⟨a, vs, rfl, e2, e3⟩ := r
    cases z : D.pys ds with
    | none => simp [D.py, z] at q
    | some ps => simp [D.py, z] at q; subst q; exact .lst e2 (Reps.dp e ds vs ps e3 z)
  | _ => exact Rep.dp e _ _ _ r q
/-- data that may be compared: texts of signs, at most 64 deep -/
def D.ok (d : D) : Bool := match d.py with
  | some p => SeqAt.shaped p
  | none => false
def D.eqb (x y : D) : Bool := match x.py, y.py with
  | some a, some b => PyData.eqv a b
  | _, _ => false
def dEqF : D → D → Option D
  | .int i, .int j => some (.bl (decide (i = j)))
  | .str i, .str j => some (.bl (decide (i = j)))
  | .bl i, .bl j => some (.bl (decide (i = j)))
  | .non, .int _ => some (.bl false) | .int _, .non => some (.bl false)
  | .non, .str _ => some (.bl false) | .str _, .non => some (.bl false)
  | .int _, .str _ => some (.bl false) | .str _, .int _ => some (.bl false)
  | _, _ => none
def dEqD (x y : D) : Option D := if x.ok && y.ok then some (.bl (x.eqb y)) else none
def dEq (x y : D) : Option D := (dEqF x y).or (dEqD x y)
theorem op2_eqF : Op2 K rEq dEqF := by
  intro S A M H x y z v u R st rx ry e k
  cases x <;> cases y <;> first | (cases e; done) | (cases rx; cases ry; cases e; first | exact ⟨rfl, k _ H (Same.refl _) (by simp [Rep])⟩)
theorem op2_neF : Op2 K rNe (fun x y => (dEqF x y).map fun | .bl b => .bl (!b) | d => d) := by
  intro S A M H x y z v u R st rx ry e k
  cases x <;> cases y <;> first | (cases e; done) | (cases rx; cases ry; cases e; first | exact ⟨rfl, k _ H (Same.refl _) (by simp [Rep])⟩)
theorem dok {d : D} (h : d.ok = true) : ∃ p, d.py = some p ∧ SeqAt.shaped p = true := by
  unfold D.ok at h
  cases z : d.py with
  | none => rw [z] at h; cases h
  | some p => rw [z] at h; exact ⟨p, rfl, h⟩
theorem op2_eqD : Op2 K (rEqD K) dEqD := by
  intro S A M H x y z v u R st rx ry e k
  unfold dEqD at e
  split at e
  · rename_i hz
    rw [Bool.and_eq_true] at hz
    obtain ⟨p, e1, s1⟩ := dok hz.1
    obtain ⟨q, e2, s2⟩ := dok hz.2
    cases e
    refine ⟨p, q, RepF.dp off_sub rx e1, RepF.dp off_sub ry e2, s1, s2, k _ H (Same.refl _) ?_⟩
    simp [Rep, D.eqb, e1, e2]
  · cases e
theorem op2_neD : Op2 K (rNeD K) (fun x y => (dEqD x y).map fun | .bl b => .bl (!b) | d => d) := by
  intro S A M H x y z v u R st rx ry e k
  dsimp only [dEqD] at e
  split at e
  · rename_i hz
    rw [Bool.and_eq_true] at hz
    obtain ⟨p, e1, s1⟩ := dok hz.1
    obtain ⟨q, e2, s2⟩ := dok hz.2
    simp only [Option.map_some, Option.some.injEq] at e
    subst e
    refine ⟨p, q, RepF.dp off_sub rx e1, RepF.dp off_sub ry e2, s1, s2, k _ H (Same.refl _) ?_⟩
    simp [Rep, D.eqb, e1, e2]
  · cases e
def dNe (x y : D) : Option D := (dEq x y).map fun | .bl b => .bl (!b) | d => d
theorem qe_eq (hu : X.A.units + 64 < cLine) (ha : QE X a wa) (hb : QE X b wb) : QE X (.Compare a [.Eq] [b] pos) (wOp dEq wa wb) := qe_cmp1 (op_eq.or (op_eqD hu)) (op2_eqF.or op2_eqD) ha hb (nomark _)
theorem qe_ne (hu : X.A.units + 64 < cLine) (ha : QE X a wa) (hb : QE X b wb) : QE X (.Compare a [.NotEq] [b] pos) (wOp dNe wa wb) :=
  qe_cmp1 (op_ne.or (op_neD hu)) (Op2.sub (op2_neF.or op2_neD) fun x y z e => by
    unfold dNe dEq at e
    cases h : dEqF x y with
    | none => simp only [h] at e ⊢; exact e
    | some w => simp only [h] at e ⊢; exact e) ha hb (nomark _)
end
end Dw
set_option Elab.async false
set_option linter.all false
set_option maxRecDepth 100000
set_option maxHeartbeats 4000000
/-! Dw4: is, in, chains, tests, displays, subscripts, slices, calls of built-ins. -/
namespace Dw
open PySem PySem.Spec PyProof.Rows L2
section
variable {X : Cx} {K : PySem.W.Frag} {a b c e : Expr} {es rest : List Expr} {wa wb wc we : WE} {wt wu : WT} {ws : WA} {pos : Pos}
/-! ### is -/
def D.isN : D → Bool
  | .non => true
  | _ => false
def dIs : D → D → Option D
  | .bl i, .bl j => some (.bl (decide (i = j)))
  | x, .non => some (.bl x.isN)
  | _, _ => none
theorem isN_dec {H h : Hp} {x : D} {v : V} (r : RepF K H h x v) : decide (v = .non) = x.isN := by
  cases x with
  | tup ds => obtain ⟨a, vs, rfl, _⟩ := r; rfl
  | lst ds => obtain ⟨a, vs, rfl, _⟩ := r; rfl
  | _ => cases r; rfl
theorem op2_is : Op2 K (fun x y H Q => rIsB x y H Q ∨ (y = .non ∧ Q (.bl (decide (x = .non))) H)) dIs := by
  intro S A M H x y z v u R st rx ry e k
  cases y with
  | non =>
    cases ry
    refine .inr ⟨rfl, ?_⟩
    rw [isN_dec rx]
    have e2 : some (D.bl x.isN) = some z := by cases x <;> exact e
    cases e2
    exact k _ H (Same.refl _) rfl
  | bl j =>
    cases x <;> try (cases e; done)
    cases rx; cases ry; cases e
    exact .inl ⟨_, _, rfl, rfl, k _ H (Same.refl _) rfl⟩
  | _ => cases x <;> cases e
def dIsNot (x y : D) : Option D := (dIs x y).map fun | .bl b => .bl (!b) | d => d
theorem op2_isNot : Op2 K (fun x y H Q => rNotB x y H Q ∨ (y = .non ∧ Q (.bl (!decide (x = .non))) H)) dIsNot := by
  intro S A M H x y z v u R st rx ry e k
  cases y with
  | non =>
    cases ry
    refine .inr ⟨rfl, ?_⟩
    rw [isN_dec rx]
    have e2 : some (D.bl (!x.isN)) = some z := by cases x <;> exact e
    cases e2
    exact k _ H (Same.refl _) rfl
  | bl j =>
    cases x <;> try (cases e; done)
    cases rx; cases ry; cases e
    exact .inl ⟨_, _, rfl, rfl, k _ H (Same.refl _) rfl⟩
  | _ => cases x <;> cases e
theorem or_is : OpR X (compareOp .Is) (fun x y H Q => rIsB x y H Q ∨ (y = .non ∧ Q (.bl (decide (x = .non))) H)) := op_isBl.or op_isN
theorem or_isNot : OpR X (compareOp .IsNot) (fun x y H Q => rNotB x y H Q ∨ (y = .non ∧ Q (.bl (!decide (x = .non))) H)) := op_notBl.or op_notN
theorem qe_is (ha : QE X a wa) (hb : QE X b wb) : QE X (.Compare a [.Is] [b] pos) (wOp dIs wa wb) := qe_cmp1 or_is op2_is ha hb (nomark _)
theorem qe_isNot (ha : QE X a wa) (hb : QE X b wb) : QE X (.Compare a [.IsNot] [b] pos) (wOp dIsNot wa wb) := qe_cmp1 or_isNot op2_isNot ha hb (nomark _)

/-! ### in: flat things -/
def D.flat : D → Bool
  | .non => true | .bl _ => true | .int _ => true | .str _ => true | _ => false
def D.feq : D → D → Bool
  | .non, .non => true
  | .bl a, .bl b => a == b
  | .bl a, .int b => (if a then 1 else 0) == b
  | .int a, .bl b => a == (if b then 1 else 0)
  | .int a, .int b => a == b
  | .str a, .str b => a == b
  | _, _ => false
theorem Rep.flat {h : Hp} {x : D} {v : V} (r : Rep K h x v) (f : x.flat = true) : flatV v = true := by
  cases x <;> first | (cases r; rfl) | (cases f; done)
theorem Reps.flat {h : Hp} : ∀ {ds : List D} {vs : List V}, Reps K h ds vs → ds.all D.flat = true → vs.all flatV = true
  | [], _, r, _ => by cases r; rfl
  | d :: ds, _, ⟨v, us, e1, e2, e3⟩, f => by
    subst e1
    rw [List.all_cons, Bool.and_eq_true] at f
    rw [List.all_cons, e2.flat f.1, Reps.flat e3 f.2]; rfl
theorem feq_eq {h : Hp} {x y : D} {v u : V} (r : Rep K h x v) (s : Rep K h y u) (f : x.flat = true) (g : y.flat = true) : eqV v u = x.feq y := by
  cases x <;> first | (cases f; done) | (cases r; cases y <;> first | (cases g; done) | (cases s; rfl))
theorem inV_eq {h : Hp} {x : D} {v : V} (r : Rep K h x v) (f : x.flat = true) : ∀ {ds : List D} {vs : List V}, Reps K h ds vs → ds.all D.flat = true → inV v vs = ds.any fun d => d.feq x
  | [], _, s, _ => by cases s; rfl
  | d :: ds, _, ⟨u, us, e1, e2, e3⟩, g => by
    subst e1
    rw [List.all_cons, Bool.and_eq_true] at g
    have ih := inV_eq r f e3 g.2
    unfold inV at ih ⊢
    rw [List.any_cons, List.any_cons, ih, feq_eq e2 r g.1 f]
def D.items : D → Option (List D)
  | .tup ds => some ds
  | .lst ds => some ds
  | _ => none
def dInF (neg : Bool) (x y : D) : Option D := match y.items with
  | some ds => if x.flat && ds.all D.flat then some (.bl (if neg then !(ds.any fun d => d.feq x) else ds.any fun d => d.feq x)) else none
  | none => none
theorem RepF.items {H h : Hp} (e : Same h H) {x : D} {v : V} {ds : List D} (r : RepF K H h x v) (i : x.items = some ds) : ∃ a vs, v = .ref a ∧ (SqL K H a vs ∨ SqT K H a vs) ∧ Reps K h ds vs := by
  cases x with
  | tup es => cases i; obtain ⟨a, vs, rfl, h1, h2⟩ := r; exact ⟨a, vs, rfl, .inr (same_t e h1), h2⟩
  | lst es => cases i; obtain ⟨a, vs, rfl, h1, h2⟩ := r; exact ⟨a, vs, rfl, .inl h1, h2⟩
  | _ => cases i
theorem RepF.flat {H h : Hp} {x : D} {v : V} (r : RepF K H h x v) (f : x.flat = true) : Rep K h x v := by
  cases x <;> first | exact r | (cases f; done)
theorem op2_inF (neg : Bool) : Op2 K (rIn K neg) (dInF neg) := by
  intro S A M H x y z v u R st rx ry e k
  unfold dInF at e
  cases i : y.items with
  | none => rw [i] at e; cases e
  | some ds =>
    rw [i] at e
    simp only at e
    split at e
    · rename_i hz
      rw [Bool.and_eq_true] at hz
      cases e
      obtain ⟨p, vs, rfl, h1, h2⟩ := RepF.items off_sub ry i
      have rx' := rx.flat hz.1
      have q := inV_eq rx' hz.1 h2 hz.2
      exact ⟨p, vs, rfl, h1, rx'.flat hz.1, Reps.flat h2 hz.2, k _ H (Same.refl _) (by rw [q]; rfl)⟩
    · cases e
def strIn (i j : Str) : Bool := !(Builtin.Str.occurrences j i 0 j.length 1).isEmpty
def dIn (x y : D) : Option D := (dInF false x y).or (dS2 (fun i j => .bl (strIn i j)) x y)
def dNotIn (x y : D) : Option D := (dInF true x y).or (dS2 (fun i j => .bl (!strIn i j)) x y)
theorem qe_in (ha : QE X a wa) (hb : QE X b wb) (hm : behindInMarks .In b = false := by rfl) : QE X (.Compare a [.In] [b] pos) (wOp dIn wa wb) :=
  qe_cmp1 (op_in_seq.or op_in_str) ((op2_inF false).or (op2_S fun _ _ _ => rfl)) ha hb hm
theorem qe_notIn (ha : QE X a wa) (hb : QE X b wb) (hm : behindInMarks .NotIn b = false := by rfl) : QE X (.Compare a [.NotIn] [b] pos) (wOp dNotIn wa wb) :=
  qe_cmp1 (op_notIn_seq.or op_notIn_str) ((op2_inF true).or (op2_S fun _ _ _ => rfl)) ha hb hm

/-! ### tests -/
def wTb (we : WE) : WT := fun env M Q => we env M fun r M1 => ∃ b, r = .d (.bl b) ∧ Q b M1
theorem dn_tb {te : TE} (h : Dn K te we) : DnT K (tB te) (wTb we) := by
  intro env M Q hw S A σ H R st en k
  refine h env M _ hw S A σ H _ st en fun v H1 x M1 A1 p1 s1 q1 ⟨b, e, hq⟩ => ?_
  subst e
  cases q1
  exact ⟨b, rfl, k b H1 M1 A1 p1 s1 hq⟩
theorem dn_tt {te : TE} (h : Dn K te we) : DnT K (tTest te) (wTb we) := dn_tb h
/-- a name, a call, a subscript whose value is a bool -/
theorem qt_val (h : QE X e we) (he : ∀ whole, isTrue e X.env whole = (do let v ← whole; standAt e.pos; holding [v] (truthy v)) := by intro _; rfl) : QT X e (wTb we) := by
  obtain ⟨te, pe, de⟩ := h
  exact ⟨_, pt_val pe he, dn_tb de⟩
theorem qt_cmp1 {op : CmpOp} {r : R2} {f : D → D → Option D} (ho : OpR X (compareOp op) r) (h2 : Op2 X.K r f) (ha : QE X a wa) (hb : QE X b wb) (hm : behindInMarks op b = false) : QT X (.Compare a [op] [b] pos) (wTb (wOp f wa wb)) := by
  obtain ⟨ta, pa, da⟩ := ha
  obtain ⟨tb, pb, db⟩ := hb
  exact ⟨_, pt_cmpR ho pa pb hm, dn_tt (dn_op h2 da db)⟩
theorem qt_lt (ha : QE X a wa) (hb : QE X b wb) : QT X (.Compare a [.Lt] [b] pos) (wTb (wOp dLt wa wb)) := qt_cmp1 or_lt op2_lt ha hb (nomark _)
theorem qt_le (ha : QE X a wa) (hb : QE X b wb) : QT X (.Compare a [.LtE] [b] pos) (wTb (wOp dLe wa wb)) := qt_cmp1 or_le op2_le ha hb (nomark _)
theorem qt_gt (ha : QE X a wa) (hb : QE X b wb) : QT X (.Compare a [.Gt] [b] pos) (wTb (wOp dGt wa wb)) := qt_cmp1 or_gt op2_gt ha hb (nomark _)
theorem qt_ge (ha : QE X a wa) (hb : QE X b wb) : QT X (.Compare a [.GtE] [b] pos) (wTb (wOp dGe wa wb)) := qt_cmp1 or_ge op2_ge ha hb (nomark _)
theorem qt_eq (hu : X.A.units + 64 < cLine) (ha : QE X a wa) (hb : QE X b wb) : QT X (.Compare a [.Eq] [b] pos) (wTb (wOp dEq wa wb)) := qt_cmp1 (op_eq.or (op_eqD hu)) (op2_eqF.or op2_eqD) ha hb (nomark _)
theorem qt_ne (hu : X.A.units + 64 < cLine) (ha : QE X a wa) (hb : QE X b wb) : QT X (.Compare a [.NotEq] [b] pos) (wTb (wOp dNe wa wb)) :=
  qt_cmp1 (op_ne.or (op_neD hu)) (Op2.sub (op2_neF.or op2_neD) fun x y z e => by
    unfold dNe dEq at e
    cases h : dEqF x y with
    | none => simp only [h] at e ⊢; exact e
    | some w => simp only [h] at e ⊢; exact e) ha hb (nomark _)
theorem qt_is (ha : QE X a wa) (hb : QE X b wb) : QT X (.Compare a [.Is] [b] pos) (wTb (wOp dIs wa wb)) := qt_cmp1 or_is op2_is ha hb (nomark _)
theorem qt_isNot (ha : QE X a wa) (hb : QE X b wb) : QT X (.Compare a [.IsNot] [b] pos) (wTb (wOp dIsNot wa wb)) := qt_cmp1 or_isNot op2_isNot ha hb (nomark _)
theorem qt_in (ha : QE X a wa) (hb : QE X b wb) (hm : behindInMarks .In b = false := by rfl) : QT X (.Compare a [.In] [b] pos) (wTb (wOp dIn wa wb)) :=
  qt_cmp1 (op_in_seq.or op_in_str) ((op2_inF false).or (op2_S fun _ _ _ => rfl)) ha hb hm
theorem qt_notIn (ha : QE X a wa) (hb : QE X b wb) (hm : behindInMarks .NotIn b = false := by rfl) : QT X (.Compare a [.NotIn] [b] pos) (wTb (wOp dNotIn wa wb)) :=
  qt_cmp1 (op_notIn_seq.or op_notIn_str) ((op2_inF true).or (op2_S fun _ _ _ => rfl)) ha hb hm
/-- a op b op c -/
def wChain (f g : D → D → Option D) (wa wb wc : WE) : WE := fun env M Q => wa env M fun x M1 => wb env M1 fun y M2 => ∃ a, x.dat M2 = some a ∧ ∃ b, y.dat M2 = some b ∧ ∃ k, f a b = some (.bl k) ∧
  (if k = true then wc env M2 fun w M3 => ∃ b', y.dat M3 = some b' ∧ ∃ c', w.dat M3 = some c' ∧ ∃ z, g b' c' = some z ∧ Q (.d z) M3 else Q (.d (.bl false)) M2)
theorem dn_chain {r r' : R2} {f g : D → D → Option D} {ta tb tc : TE} (o : Op2 K r f) (o' : Op2 K r' g) (ha : Dn K ta wa) (hb : Dn K tb wb) (hc : Dn K tc wc) : Dn K (tChain r r' ta tb tc) (wChain f g wa wb wc) := by
  intro env M Q hw S A σ H R st en k
  refine ha env M _ hw S A σ H _ st en fun v H1 x M1 A1 p1 s1 q1 hw1 => ?_
  refine hb env M1 _ hw1 S A1 σ H1 _ s1 (en.mono p1) fun u H2 y M2 A2 p2 s2 q2 ⟨a, ea, b, eb, t, ez, hq⟩ => ?_
  refine o S A2 M2 H2 a b (.bl t) v u _ s2 (s2.dat (q1.mono p2) ea) (s2.dat q2 eb) ez fun w H' sm rw => ?_
  cases rw
  refine ⟨t, rfl, ?_⟩
  have p3 := s2.post sm
  have s3 := s2.grow sm
  cases t with
  | false => exact k _ H' (.d (.bl false)) M2 A2 ((p1.trans p2).trans p3) s3 (show V.bl false = V.bl false from rfl) hq
  | true =>
    refine hc env M2 _ hq S A2 σ H' _ s3 (en.mono ((p1.trans p2).trans p3)) fun w H4 y' M4 A4 p4 s4 q4 ⟨b', eb', c', ec', z, ez', hq'⟩ => ?_
    refine o' S A4 M4 H4 b' c' z u w R s4 (s4.dat (q2.mono (p3.trans p4)) eb') (s4.dat q4 ec') ez' fun w5 H5 sm5 rw5 => ?_
    exact k w5 H5 (.d z) M4 A4 ((((p1.trans p2).trans p3).trans p4).trans (s4.post sm5)) (s4.grow sm5) rw5 hq'
theorem qe_chain {op op' : CmpOp} {r r' : R2} {f g : D → D → Option D} (ho : OpR X (compareOp op) r) (h2 : Op2 X.K r f) (ho' : OpR X (compareOp op') r') (h2' : Op2 X.K r' g) (ha : QE X a wa) (hb : QE X b wb) (hc : QE X c wc)
    (hm : lastMarks [op, op'] [b, c] = false := by with_unfolding_all rfl) : QE X (.Compare a [op, op'] [b, c] pos) (wChain f g wa wb wc) := by
  obtain ⟨ta, pa, da⟩ := ha
  obtain ⟨tb, pb, db⟩ := hb
  obtain ⟨tc, pc, dc⟩ := hc
  exact ⟨_, pe_chain ho ho' pa pb pc hm, dn_chain h2 h2' da db dc⟩
theorem qt_chain {op op' : CmpOp} {r r' : R2} {f g : D → D → Option D} (ho : OpR X (compareOp op) r) (h2 : Op2 X.K r f) (ho' : OpR X (compareOp op') r') (h2' : Op2 X.K r' g) (ha : QE X a wa) (hb : QE X b wb) (hc : QE X c wc)
    (hm : lastMarks [op, op'] [b, c] = false := by with_unfolding_all rfl) : QT X (.Compare a [op, op'] [b, c] pos) (wTb (wChain f g wa wb wc)) := by
  obtain ⟨ta, pa, da⟩ := ha
  obtain ⟨tb, pb, db⟩ := hb
  obtain ⟨tc, pc, dc⟩ := hc
  exact ⟨_, pt_chain ho ho' pa pb pc hm, dn_tt (dn_chain h2 h2' da db dc)⟩
/-- and, or, not of tests -/
def wAnd (t u : WT) : WT := fun env M Q => t env M fun c M1 => if c = true then u env M1 Q else Q false M1
def wOr (t u : WT) : WT := fun env M Q => t env M fun c M1 => if c = true then Q true M1 else u env M1 Q
def wNotT (t : WT) : WT := fun env M Q => t env M fun c M1 => Q (!c) M1
theorem qw_one {op : PySem.BoolOp} (h : QT X a wt) (hop : op = .And ∨ op = .Or) : QW X (.BoolOp op [a] pos) wt := by
  obtain ⟨tt, pt, dt⟩ := h
  rcases hop with rfl | rfl
  · exact ⟨tt, pw_and1 pt, dt⟩
  · exact ⟨tt, pw_or1 pt, dt⟩
theorem qw_and1 (h : QT X a wt) : QW X (.BoolOp .And [a] pos) wt := qw_one h (.inl rfl)
theorem qw_or1 (h : QT X a wt) : QW X (.BoolOp .Or [a] pos) wt := qw_one h (.inr rfl)
theorem qw_and (h : QT X a wt) (g : QW X (.BoolOp .And (b :: rest) pos) wu) : QW X (.BoolOp .And (a :: b :: rest) pos) (wAnd wt wu) := by
  obtain ⟨tt, pt, dt⟩ := h
  obtain ⟨tu, pu, du⟩ := g
  refine ⟨_, pw_and pt pu, fun env M Q hw S A σ H R st en k => ?_⟩
  refine dt env M _ hw S A σ H _ st en fun c H1 M1 A1 p1 s1 hq => ?_
  cases c with
  | true => exact du env M1 Q hq S A1 σ H1 R s1 (en.mono p1) fun d H2 M2 A2 p2 s2 hq2 => k d H2 M2 A2 (p1.trans p2) s2 hq2
  | false => exact k false H1 M1 A1 p1 s1 hq
theorem qw_or (h : QT X a wt) (g : QW X (.BoolOp .Or (b :: rest) pos) wu) : QW X (.BoolOp .Or (a :: b :: rest) pos) (wOr wt wu) := by
  obtain ⟨tt, pt, dt⟩ := h
  obtain ⟨tu, pu, du⟩ := g
  refine ⟨_, pw_or pt pu, fun env M Q hw S A σ H R st en k => ?_⟩
  refine dt env M _ hw S A σ H _ st en fun c H1 M1 A1 p1 s1 hq => ?_
  cases c with
  | true => exact k true H1 M1 A1 p1 s1 hq
  | false => exact du env M1 Q hq S A1 σ H1 R s1 (en.mono p1) fun d H2 M2 A2 p2 s2 hq2 => k d H2 M2 A2 (p1.trans p2) s2 hq2
theorem QW.t (h : QW X e wt) : QT X e wt := by
  obtain ⟨tt, pt, dt⟩ := h
  exact ⟨tt, pt.pt, dt⟩
theorem qt_not (h : QT X a wt) : QT X (.UnaryOp .Not a pos) (wNotT wt) := by
  obtain ⟨tt, pt, dt⟩ := h
  refine ⟨_, pt_not pt, fun env M Q hw S A σ H R st en k => ?_⟩
  exact dt env M _ hw S A σ H _ st en fun c H1 M1 A1 p1 s1 hq => k (!c) H1 M1 A1 p1 s1 hq
/-- .. as values -/
def wAndV (wa wb : WE) : WE := fun env M Q => wa env M fun x M1 => ∃ c, x = .d (.bl c) ∧ if c = true then wb env M1 Q else Q (.d (.bl false)) M1
def wOrV (wa wb : WE) : WE := fun env M Q => wa env M fun x M1 => ∃ c, x = .d (.bl c) ∧ if c = true then Q (.d (.bl true)) M1 else wb env M1 Q
def wNotV (wa : WE) : WE := fun env M Q => wa env M fun x M1 => ∃ c, x = .d (.bl c) ∧ Q (.d (.bl (!c))) M1
theorem qe_one {op : PySem.BoolOp} (h : QE X a wa) : QE X (.BoolOp op [a] pos) wa := by
  obtain ⟨te, pe, de⟩ := h
  exact ⟨te, pe_one pe, de⟩
theorem qe_and (h : QE X a wa) (g : QE X (.BoolOp .And (b :: rest) pos) wb) : QE X (.BoolOp .And (a :: b :: rest) pos) (wAndV wa wb) := by
  obtain ⟨ta, pa, da⟩ := h
  obtain ⟨tb, pb, db⟩ := g
  refine ⟨_, pe_and pa pb, fun env M Q hw S A σ H R st en k => ?_⟩
  refine da env M _ hw S A σ H _ st en fun v H1 x M1 A1 p1 s1 q1 ⟨c, e, hq⟩ => ?_
  subst e
  cases q1
  refine ⟨c, rfl, ?_⟩
  cases c with
  | true => exact db env M1 Q hq S A1 σ H1 R s1 (en.mono p1) fun d H2 r M2 A2 p2 s2 q2 hq2 => k d H2 r M2 A2 (p1.trans p2) s2 q2 hq2
  | false => exact k (.bl false) H1 (.d (.bl false)) M1 A1 p1 s1 (show V.bl false = V.bl false from rfl) hq
theorem qe_or (h : QE X a wa) (g : QE X (.BoolOp .Or (b :: rest) pos) wb) : QE X (.BoolOp .Or (a :: b :: rest) pos) (wOrV wa wb) := by
  obtain ⟨ta, pa, da⟩ := h
  obtain ⟨tb, pb, db⟩ := g
  refine ⟨_, pe_or pa pb, fun env M Q hw S A σ H R st en k => ?_⟩
  refine da env M _ hw S A σ H _ st en fun v H1 x M1 A1 p1 s1 q1 ⟨c, e, hq⟩ => ?_
  subst e
  cases q1
  refine ⟨c, rfl, ?_⟩
  cases c with
  | false => exact db env M1 Q hq S A1 σ H1 R s1 (en.mono p1) fun d H2 r M2 A2 p2 s2 q2 hq2 => k d H2 r M2 A2 (p1.trans p2) s2 q2 hq2
  | true => exact k (.bl true) H1 (.d (.bl true)) M1 A1 p1 s1 (show V.bl true = V.bl true from rfl) hq
theorem qe_not (h : QE X a wa) : QE X (.UnaryOp .Not a pos) (wNotV wa) := by
  obtain ⟨ta, pa, da⟩ := h
  refine ⟨_, pe_not pa, fun env M Q hw S A σ H R st en k => ?_⟩
  refine da env M _ hw S A σ H _ st en fun v H1 x M1 A1 p1 s1 q1 ⟨c, e, hq⟩ => ?_
  subst e
  cases q1
  exact ⟨c, rfl, k (.bl (!c)) H1 (.d (.bl (!c))) M1 A1 p1 s1 (show V.bl (!c) = V.bl (!c) from rfl) hq⟩
def wIf (t : WT) (wa wb : WE) : WE := fun env M Q => t env M fun c M1 => if c = true then wa env M1 Q else wb env M1 Q
theorem qe_if (h : QT X c wt) (ha : QE X a wa) (hb : QE X b wb) : QE X (.IfExp c a b pos) (wIf wt wa wb) := by
  obtain ⟨tt, pt, dt⟩ := h
  obtain ⟨ta, pa, da⟩ := ha
  obtain ⟨tb, pb, db⟩ := hb
  refine ⟨_, pe_ifExp pt pa pb, fun env M Q hw S A σ H R st en k => ?_⟩
  refine dt env M _ hw S A σ H _ st en fun c H1 M1 A1 p1 s1 hq => ?_
  cases c with
  | true => exact da env M1 Q hq S A1 σ H1 R s1 (en.mono p1) fun d H2 r M2 A2 p2 s2 q2 hq2 => k d H2 r M2 A2 (p1.trans p2) s2 q2 hq2
  | false => exact db env M1 Q hq S A1 σ H1 R s1 (en.mono p1) fun d H2 r M2 A2 p2 s2 q2 hq2 => k d H2 r M2 A2 (p1.trans p2) s2 q2 hq2

/-! ### arguments, displays -/
def wNil : WA := fun _ M Q => Q [] M
def wCons (wa : WE) (ws : WA) : WA := fun env M Q => wa env M fun x M1 => ws env M1 fun xs M2 => Q (x :: xs) M2
theorem qa_nil : QA X [] wNil := ⟨_, pa_nil, fun env M Q hw S A σ H R st en k => k [] H [] M A Post.refl st rfl hw⟩
theorem qa_cons (h : QE X e we) (g : QA X es ws) (hs : starEach (e :: es) X.env = (false, eval e X.env) :: starEach es X.env := by rfl) : QA X (e :: es) (wCons we ws) := by
  obtain ⟨te, pe, de⟩ := h
  obtain ⟨ta, pa, da⟩ := g
  refine ⟨_, pa_cons pe pa hs, fun env M Q hw S A σ H R st en k => ?_⟩
  refine de env M _ hw S A σ H _ st en fun v H1 x M1 A1 p1 s1 q1 hw1 => ?_
  exact da env M1 _ hw1 S A1 σ H1 _ s1 (en.mono p1) fun vs H2 rs M2 A2 p2 s2 q2 hq => k (v :: vs) H2 (x :: rs) M2 A2 (p1.trans p2) s2 ⟨v, vs, rfl, q1.mono p2, q2⟩ hq
def ds? : List Rv → Option (List D)
  | [] => some []
  | .d x :: rs => (ds? rs).map (x :: ·)
  | .o _ :: _ => none
theorem RepVs.data {S A : List Addr} {H : Hp} : ∀ {rs : List Rv} {vs : List V} {ds : List D}, RepVs K S A H rs vs → ds? rs = some ds → Reps K (view S A H) ds vs
  | [], _, _, r, e => by cases r; cases e; rfl
  | .d x :: rs, _, ds, ⟨v, us, e1, e2, e3⟩, e => by
    subst e1
    unfold ds? at e
    cases z : ds? rs with
    | none => rw [z] at e; cases e
    | some es => rw [z] at e; cases e; exact ⟨v, us, rfl, e2, RepVs.data e3 z⟩
  | .o k :: rs, _, _, _, e => by cases e
def wTup (ws : WA) : WE := fun env M Q => ws env M fun rs M1 => ∃ ds, ds? rs = some ds ∧ ds.length ≤ sizeLine ∧ Q (.d (.tup ds)) M1
def wLst (ws : WA) : WE := fun env M Q => ws env M fun rs M1 => ∃ ds, ds? rs = some ds ∧ ds.length ≤ sizeLine ∧ Q (.d (.lst ds)) M1
/-- a new list that may change -/
def wLstO (ws : WA) : WE := fun env M Q => ws env M fun rs M1 => ∃ ds, ds? rs = some ds ∧ ds.length ≤ sizeLine ∧ Q (.o M1.length) (M1 ++ [.lst ds])
theorem qe_tup {x1 : Nat} (h : QA X es ws) : QE X (.Tuple es x1 pos) (wTup ws) := by
  obtain ⟨ta, pa, da⟩ := h
  refine ⟨_, pe_tup pa, fun env M Q hw S A σ H R st en k => ?_⟩
  refine da env M _ hw S A σ H _ st en fun vs H1 rs M1 A1 p1 s1 q1 ⟨ds, e, hz, hq⟩ => ?_
  have r := q1.data e
  refine ⟨by rw [r.len]; exact hz, fun p hp => ?_⟩
  have sm := same_upd (o := .tup vs) hp
  exact k _ _ (.d (.tup ds)) M1 A1 (p1.trans (s1.post sm)) (s1.grow sm) ⟨p, vs, rfl, .inl (.inl (view_at s1 hp)), Reps.mono (off_same sm) _ _ r⟩ hq
theorem qe_lst (h : QA X es ws) : QE X (.List es pos) (wLst ws) := by
  obtain ⟨ta, pa, da⟩ := h
  refine ⟨_, pe_lst pa, fun env M Q hw S A σ H R st en k => ?_⟩
  refine da env M _ hw S A σ H _ st en fun vs H1 rs M1 A1 p1 s1 q1 ⟨ds, e, hz, hq⟩ => ?_
  have r := q1.data e
  refine ⟨by rw [r.len]; exact hz, fun p hp => ?_⟩
  have sm := same_upd (o := .lst vs) hp
  exact k _ _ (.d (.lst ds)) M1 A1 (p1.trans (s1.post sm)) (s1.grow sm) ⟨p, vs, rfl, .inl (.inl (view_at s1 hp)), Reps.mono (off_same sm) _ _ r⟩ hq
theorem qe_lstO (h : QA X es ws) : QE X (.List es pos) (wLstO ws) := by
  obtain ⟨ta, pa, da⟩ := h
  refine ⟨_, pe_lst pa, fun env M Q hw S A σ H R st en k => ?_⟩
  refine da env M _ hw S A σ H _ st en fun vs H1 rs M1 A1 p1 s1 q1 ⟨ds, e, hz, hq⟩ => ?_
  have r := q1.data e
  refine ⟨by rw [r.len]; exact hz, fun p hp => ?_⟩
  obtain ⟨s2, p2⟩ := s1.new (mo := .lst ds) (o := .lst vs) hp ⟨vs, upd_same, Reps.mono (view_new hp) _ _ r⟩
  exact k _ _ (.o M1.length) _ _ (p1.trans p2) s2 ⟨p, by rw [← s1.len, List.getElem?_append_right (Nat.le_refl _)]; simp, rfl⟩ hq

/-! ### subscripts, slices -/
def dIx : D → D → Option D
  | .lst ds, .int i => atI ds i
  | .tup ds, .int i => atI ds i
  | .str z, .int i => if z.length ≤ sizeLine then (atI z.cps.toList i).map fun c => .str ⟨#[c]⟩ else none
  | _, _ => none
theorem Reps.atI {h : Hp} {ds : List D} {vs : List V} {i : Int} {d : D} (r : Reps K h ds vs) (e : L2.atI ds i = some d) : ∃ v, L2.atI vs i = some v ∧ Rep K h d v := by
  unfold L2.atI at e ⊢
  rw [r.len]
  cases z : ixN ds.length i with
  | none => rw [z] at e; cases e
  | some j => rw [z] at e; exact r.get e
theorem op2_ix : Op2 K (rIx K) dIx := by
  intro S A M H x y z v u R st rx ry e k
  cases x with
  | lst ds =>
    cases y <;> try (cases e; done)
    cases ry
    obtain ⟨p, vs, rfl, h1, h2⟩ := rx
    obtain ⟨w, e1, e2⟩ := Reps.atI h2 e
    exact .inl ⟨p, vs, _, w, rfl, rfl, h1, e1, k w H (Same.refl _) e2⟩
  | tup ds =>
    cases y <;> try (cases e; done)
    cases ry
    obtain ⟨p, vs, rfl, h1, h2⟩ := rx
    obtain ⟨w, e1, e2⟩ := Reps.atI h2 e
    exact .inr (.inl ⟨p, vs, _, w, rfl, rfl, same_t off_sub h1, e1, k w H (Same.refl _) e2⟩)
  | str t =>
    cases y <;> try (cases e; done)
    rename_i i
    cases rx; cases ry
    unfold dIx at e
    simp only at e
    split at e
    · rename_i hz
      cases q : L2.atI t.cps.toList i with
      | none => rw [q] at e; cases e
      | some c =>
        rw [q] at e
        cases e
        exact .inr (.inr ⟨t, i, c, rfl, rfl, hz, q, k _ H (Same.refl _) rfl⟩)
    · cases e
  | _ => cases e
theorem qe_ix (ha : QE X a wa) (hb : QE X b wb) (hs : PlainIx b := by exact fun _ _ => rfl) : QE X (.Subscript a b pos) (wOp dIx wa wb) := by
  obtain ⟨ta, pa, da⟩ := ha
  obtain ⟨tb, pb, db⟩ := hb
  exact ⟨_, pe_ix ix_seq pa pb hs, dn_op op2_ix da db⟩
abbrev WO := Env' → Mem → (Option Int → Mem → Prop) → Prop
def WpO (K : PySem.W.Frag) (te : TO) (env : Env') (M : Mem) (Q : Option Int → Mem → Prop) : Prop :=
  ∀ (S A : List Addr) (σ : L2.St) (H : Hp) (R : Option Int → Hp → Prop), Sto K S A H M → EnvOk K S A H env σ →
    (∀ (b : Option Int) (H' : Hp) (M' : Mem) (A' : List Addr), Post S A H A' H' → Sto K S A' H' M' → Q b M' → R b H') → te σ H R
def QO (X : Cx) (e : Option Expr) (wo : WO) : Prop := ∃ to, PO X e to ∧ ∀ env M Q, wo env M Q → WpO X.K to env M Q
def wNoPart : WO := fun _ M Q => Q none M
def wPart (we : WE) : WO := fun env M Q => we env M fun r M1 => ∃ i, r = .d (.int i) ∧ Q (some i) M1
theorem qo_none : QO X none wNoPart := ⟨_, po_none, fun env M Q hw S A σ H R st en k => k none H M A Post.refl st hw⟩
theorem qo_some (h : QE X e we) : QO X (some e) (wPart we) := by
  obtain ⟨te, pe, de⟩ := h
  refine ⟨_, po_some pe, fun env M Q hw S A σ H R st en k => ?_⟩
  refine de env M _ hw S A σ H _ st en fun v H1 x M1 A1 p1 s1 q1 ⟨i, e, hq⟩ => ?_
  subst e
  cases q1
  exact ⟨i, rfl, k (some i) H1 M1 A1 p1 s1 hq⟩
def cutD {α : Type} (xs : List α) (lo hi : Option Int) : List α := (xs.drop (HT.sIx xs.length 0 lo)).take (HT.sIx xs.length xs.length hi - HT.sIx xs.length 0 lo)
def dSl (lo hi : Option Int) : D → Option D
  | .lst ds => some (.lst (cutD ds lo hi))
  | .tup ds => some (.tup (cutD ds lo hi))
  | .str z => if z.length ≤ sizeLine then some (.str (cutS z lo hi)) else none
  | _ => none
theorem Reps.cut {h : Hp} {ds : List D} {vs : List V} (r : Reps K h ds vs) (lo hi : Option Int) : Reps K h (cutD ds lo hi) (cutV vs lo hi) := by
  unfold cutD cutV
  rw [r.len]
  exact Reps.take _ (Reps.drop _ r)
def wSl (we : WE) (wl wh : WO) : WE := fun env M Q => we env M fun x M1 => wl env M1 fun lo M2 => wh env M2 fun hi M3 => ∃ a, x.dat M3 = some a ∧ ∃ z, dSl lo hi a = some z ∧ Q (.d z) M3
theorem qe_sl {p2 : Pos} {lo hi : Option Expr} {wl wh : WO} (h : QE X e we) (hl : QO X lo wl) (hh : QO X hi wh) : QE X (.Subscript e (.Slice lo hi none p2) pos) (wSl we wl wh) := by
  obtain ⟨te, pe, de⟩ := h
  obtain ⟨tl, pl, dl⟩ := hl
  obtain ⟨th, ph, dh⟩ := hh
  refine ⟨_, pe_slice (sl_list.or (sl_tupA.or sl_str)) pe pl ph, fun env M Q hw S A σ H R st en k => ?_⟩
  refine de env M _ hw S A σ H _ st en fun v H1 x M1 A1 p1 s1 q1 hw1 => ?_
  refine dl env M1 _ hw1 S A1 σ H1 _ s1 (en.mono p1) fun lo H2 M2 A2 p2 s2 hw2 => ?_
  refine dh env M2 _ hw2 S A2 σ H2 _ s2 (en.mono (p1.trans p2)) fun hi H3 M3 A3 p3 s3 ⟨d, ed, z, ez, hq⟩ => ?_
  have rx := s3.dat (q1.mono (p2.trans p3)) ed
  have pp := (p1.trans p2).trans p3
  cases d with
  | lst ds =>
    cases ez
    obtain ⟨p, vs, rfl, h1, h2⟩ := rx
    refine .inl ⟨p, vs, rfl, h1, fun q hq' => ?_⟩
    have sm := same_upd (o := .lst (cutV vs lo hi)) hq'
    exact k _ _ (.d (.lst (cutD ds lo hi))) M3 A3 (pp.trans (s3.post sm)) (s3.grow sm) ⟨q, _, rfl, .inl (.inl (view_at s3 hq')), Reps.cut (Reps.mono (off_same sm) _ _ h2) lo hi⟩ hq
  | tup ds =>
    cases ez
    obtain ⟨p, vs, rfl, h1, h2⟩ := rx
    refine .inr (.inl ⟨p, vs, rfl, same_t off_sub h1, fun w => ?_, fun w q hq' => ?_⟩)
    · have e1 : cutD ds lo hi = ds := by
        unfold cutD
        rw [← h2.len, w.1, w.2, List.drop_zero, Nat.sub_zero, h2.len, List.take_length]
      rw [e1] at hq
      exact k _ H3 (.d (.tup ds)) M3 A3 pp s3 ⟨p, vs, rfl, h1, h2⟩ hq
    · have sm := same_upd (o := .tup (cutV vs lo hi)) hq'
      exact k _ _ (.d (.tup (cutD ds lo hi))) M3 A3 (pp.trans (s3.post sm)) (s3.grow sm) ⟨q, _, rfl, .inl (.inl (view_at s3 hq')), Reps.cut (Reps.mono (off_same sm) _ _ h2) lo hi⟩ hq
  | str t =>
    unfold dSl at ez
    simp only at ez
    split at ez
    · rename_i hz
      cases ez
      cases rx
      exact .inr (.inr ⟨t, rfl, hz, k _ H3 (.d (.str (cutS t lo hi))) M3 A3 pp s3 (show V.str _ = V.str _ from rfl) hq⟩)
    · cases ez
  | _ => cases ez
end
end Dw
set_option Elab.async false
set_option linter.all false
set_option maxRecDepth 100000
set_option maxHeartbeats 4000000
/-! DwS: sorted(list or tuple of data). -/
namespace Dw
open PySem PySem.Spec PyProof.Rows L2
section
variable {prog : Program} {w : World} {A : Around} {E : Value → Shared → Prop} {s : Shared}
theorem collect_seq {l : Addr} {o : Obj} {T : String} {n : Nat} {vs : List Value} {Q : List Value → Shared → Prop} (ho : s.heap.get? l = some o) (hc : o.cls = .type T) (hT : T = "list" ∨ T = "tuple") (hd : o.data = .seq vs.toArray n)
    (h : Q vs { s with heap := (s.heap.push (seqObj "list" #[] 0)).update s.heap.objs.size (Obj.mapSeq (· ++ vs.toArray)) }) (hsz : vs.length ≤ sizeLine) :
    wpAny (model prog w) A (collect (.ref l)) Q E s := by
  unfold collect
  refine wpAny_bind (wpAny_runValue (codeAny_builtin entry_proto_collect' ?_))
  show wpAny _ _ (do again (.builtin "list.__iadd__" ⟨[← newList [], .ref l], []⟩)) _ _ s
  refine wpAny_bind (wpAny_newList (wpAny_pure ⟨Code.quiet_builtin _ (by decide +kernel), codeAny_builtin entry_list_iadd' ?_⟩))
  show wpAny _ _ (Builtin.List.listExtendWith (.ref s.heap.objs.size) (.ref l) (.ref s.heap.objs.size)) _ _ { s with heap := s.heap.push (seqObj "list" #[] 0) }
  unfold Builtin.List.listExtendWith
  have ho' : (s.heap.push (seqObj "list" #[] 0)).get? l = some o := Heap.get?_push_of_some _ ho
  refine wpAny_bind (wpAny_typeOf (T := T) ⟨o, ho', hc⟩ ?_)
  have ht : (Builtin.List.listSameRef (.ref s.heap.objs.size) (.ref l) || Value.type T == .type "list" || Value.type T == .type "tuple") = true := by
    rcases hT with rfl | rfl
    · rw [show (Value.type "list" == Value.type "list") = true from rfl]; simp
    · rw [show (Value.type "tuple" == Value.type "tuple") = true from rfl]; simp
  rw [if_pos ht]
  refine wpAny_bind (listItems_at ho' hd ?_)
  refine wpAny_bind (listItems_at (xs := #[]) (n := 0) (Heap.get?_push_size _ rfl) rfl ?_)
  rw [if_neg (by simp)]
  refine wpAny_bind (listUpdate_at (xs := #[]) (n := 0) (Heap.get?_push_size _ rfl) rfl ?_ (Nat.zero_le _) (by show (#[] ++ vs.toArray).size ≤ sizeLine + 1; simp only [Array.size_append, List.size_toArray, List.length_nil]; omega))
  refine wpAny_pure ?_
  show wpAny (model prog w) A (do
      let o ← load s.heap.objs.size
      match o.data with
      | .seq xs _ => pure xs.toList
      | _ => unsupported "internal:collect") Q E { s with heap := (s.heap.push (seqObj "list" #[] 0)).update s.heap.objs.size (Obj.mapSeq (· ++ vs.toArray)) }
  refine wpAny_bind (wpAny_load (get?_update_seq (Heap.get?_push_size _ rfl) _) ?_)
  show wpAny _ _ (pure ((#[] : Array Value) ++ vs.toArray).toList) Q E _
  rw [show ((#[] : Array Value) ++ vs.toArray).toList = vs by simp]
  exact wpAny_pure h
open PySem.W PySem.Calls
theorem sorted_seq {l : Addr} {o : Obj} {T : String} {n : Nat} {vs : List Value} {κ : PyProof.Rows.KeyKind} {Q : Value → Shared → Prop} (ho : s.heap.get? l = some o) (hc : o.cls = .type T) (hT : T = "list" ∨ T = "tuple") (hd : o.data = .seq vs.toArray n)
    (S : SortsAt prog w A.in1.in1 { s with heap := sortingHeap (copyHeap s.heap vs) (s.heap.objs.size + 1) vs } κ vs) (hL : vs.length ≤ sizeLine)
    (h : Q (.ref (s.heap.objs.size + 1)) { s with heap := sortedAll s.heap vs (sortVals κ false vs vs).toArray }) : wpAny (model prog w) A (call (.builtin "sorted") [.ref l]) Q E s := by
  refine call_function_entry_kw kind_sorted plain_sorted entry_sorted (args_sorted1 _) ?_
  unfold Builtin.«sorted»
  refine wpAny_bind (m := checkCount "sorted" 1 1 _) (wpAny_pure ?_)
  refine wpAny_bind (collect_seq ho hc hT hd ?_ hL)
  refine wpAny_bind (wpAny_newList ?_ hL)
  have hsz : ((s.heap.push (seqObj "list" #[] 0)).update s.heap.objs.size (Obj.mapSeq (· ++ vs.toArray))).objs.size = s.heap.objs.size + 1 := by
    rw [Heap.size_update, size_push']
  show wpAny _ _ _ _ _ { s with heap := copyHeap s.heap vs }
  rw [hsz]
  refine wpAny_bind (wpAny_holding (wpAny_call_entry_kw slot_list_sort ⟨_, copyHeap_at s.heap vs, rfl⟩ entry_list_sort ?body (args_list_sort _)))
  case body =>
    show wpAny (model prog w) A.in1.in1 (Builtin.«list.sort» ⟨[.ref (s.heap.objs.size + 1)], []⟩) _ _ _
    refine wpAny_mono (Q := fun f s' => f = .done (.ret .none) ∧ Q (.ref (s.heap.objs.size + 1)) s') (list_sort_vals (s := { s with heap := copyHeap s.heap vs }) (copyHeap_at s.heap vs) S hL ⟨rfl, h⟩) (fun f s' hf => ?_) fun _ _ e => e
    obtain ⟨rfl, hq⟩ := hf
    exact ⟨_, rfl, wpAny_pure ⟨_, rfl, hq⟩⟩
end
/-- what may be sorted: data of one kind at each place -/
structure SrtOk (ps : List PyData) : Prop where
  alike : PySem.W.AllAlike ps
  kind : PySem.W.Sortable ps
  few : ∀ d ∈ ps, d.depth ≤ 64
def rSortG (K : PySem.W.Frag) : List V → Hp → VK → Prop := fun vs H Q => ∃ (a : Addr) (xs : List V) (ps : List PyData), vs = [V.ref a] ∧ (SqL K H a xs ∨ SqT K H a xs) ∧ DpAll K H xs ps ∧ SrtOk ps ∧
  ∀ p, H p = none → Q (.ref p) (upd H p (.lst (((xs.zip ps).mergeSort (PySem.W.dataLe false (·.2))).map (·.1))))
section
variable {X : Cx}
theorem each_zip {I : L2.St → Prop} {K : PySem.W.Frag} {pins : List (Addr × Obj)} {σ : L2.St} {H : Hp} {s : Shared} (Iv : Inv X pins σ H s) : ∀ {xs : List V} {ps : List PyData} {us : List Value}, DpAll X.K H xs ps → Vals xs us →
    PySem.W.EachIs (fun (v : Value) (b : V × PyData) => RelV b.1 v) us (xs.zip ps) ∧ PySem.W.EachIs (fun (v : Value) (b : V × PyData) => ∃ as, Reads s.heap v b.2 as) us (xs.zip ps) ∧ (xs.zip ps).map (·.2) = ps ∧ (xs.zip ps).length = us.length
  | [], _, _, d, r => by cases d; cases r; exact ⟨.nil, .nil, rfl, rfl⟩
  | x :: xs, _, _, d, r => by
    cases d with
    | cons d1 d2 =>
      cases r with
      | cons r1 r2 =>
        obtain ⟨h1, h2, h3, h4⟩ := each_zip (I := I) (K := K) Iv d2 r2
        refine ⟨.cons r1 h1, .cons (Dp.reads Iv _ _ _ d1 r1) h2, ?_, ?_⟩
        · rw [List.zip_cons_cons, List.map_cons, h3]
        · rw [List.zip_cons_cons, List.length_cons, List.length_cons, h4]
theorem vals_each : ∀ {out : List Value} {bs : List (V × PyData)}, PySem.W.EachIs (fun (v : Value) (b : V × PyData) => RelV b.1 v) out bs → Vals (bs.map (·.1)) out
  | _, _, .nil => .nil
  | _, _, .cons a b => .cons a (vals_each b)
theorem cr_sortG (hu : X.A.units + 70 < cLine) : CallR X (.builtin "sorted") (rSortG X.K) := by
  intro pins s σ H vs us Q I r h
  obtain ⟨a, xs, ps, rfl, hx, hd, ok, q⟩ := h
  rw [Vals.ref1 r]
  obtain ⟨its, rv, o, T, n, ho, hc, hT, hdt, hz⟩ : ∃ (its : List Value), Vals xs its ∧ ∃ (o : Obj) (T : String) (n : Nat), s.heap.get? a = some o ∧ o.cls = .type T ∧ (T = "list" ∨ T = "tuple") ∧ o.data = .seq its.toArray n ∧ xs.length ≤ sizeLine := by
    rcases hx with hx | hx
    · obtain ⟨its, rv, ⟨o, n, h1, h2, _, h3⟩, hz⟩ := I.list hx
      exact ⟨its, rv, o, "list", n, h1, h2, .inl rfl, h3, hz⟩
    · obtain ⟨its, rv, ⟨o, h1, h2, n, h3⟩, hz⟩ := I.tuple hx
      exact ⟨its, rv, o, "tuple", n, h1, h2, .inr rfl, h3, hz⟩
  obtain ⟨e1, e2, e3, e4⟩ := each_zip (I := fun _ => True) (K := X.K) I hd rv
  have er' : PySem.W.EachIs (fun (v : Value) (b : V × PyData) => ∃ as, Reads (PySem.W.sortingHeap (PySem.W.copyHeap s.heap its) (s.heap.objs.size + 1) its) v b.2 as) its (xs.zip ps) := e2.mono fun _ _ ⟨as, r⟩ => ⟨as, PyProof.Rows.Reads.keeps (fun _ _ => PySem.W.sorting_copy_old) r⟩
  have hal : PySem.W.AllAlike ((xs.zip ps).map (·.2)) := by rw [e3]; exact ok.alike
  have hk : PySem.W.Sortable ((xs.zip ps).map (·.2)) := by rw [e3]; exact ok.kind
  have S := PySem.W.SortsAt.data (prog := X.prog) (w := X.w) (A := X.A.in1.in1) (s := { s with heap := PySem.W.sortingHeap (PySem.W.copyHeap s.heap its) (s.heap.objs.size + 1) its }) (PySem.W.each_map (R := fun v d => ∃ as, Reads (PySem.W.sortingHeap (PySem.W.copyHeap s.heap its) (s.heap.objs.size + 1) its) v d as) (fun b : V × PyData => b.2) er') hal hk (fun d hd' => by
    rw [e3] at hd'
    have := ok.few d hd'
    show X.A.in1.in1.units + d.depth < cLine
    have u2 : X.A.in1.in1.units = X.A.units + 2 := rfl
    omega)
  refine sorted_seq ho hc hT hdt S (by rw [← e4, List.length_zip]; have := rv.length; omega) ?_
  have out := PySem.W.sortVals_data (R := fun (v : Value) (b : V × PyData) => RelV b.1 v) (enc := (·.2)) false e1 er' hal
  obtain ⟨ep, he'⟩ := PyProof.Rows.sortedAll_at s.heap its (PySem.W.sortVals (PySem.W.dataKind (PySem.W.sortingHeap (PySem.W.copyHeap s.heap its) (s.heap.objs.size + 1) its) ((xs.zip ps).map (·.2))) false its its).toArray
  have hv := vals_each out
  have hlen : (((xs.zip ps).mergeSort (PySem.W.dataLe false (·.2))).map (·.1)).length ≤ sizeLine := by
    rw [List.length_map, List.length_mergeSort, List.length_zip]; omega
  exact ⟨.ref _, upd H (s.heap.objs.size + 1) (.lst (((xs.zip ps).mergeSort (PySem.W.dataLe false (·.2))).map (·.1))), I.laid (t' := s.toks) (fun _ _ => PyProof.Rows.sortedAll_old) (Nat.le_succ _) ⟨hlen, _, ep, hv, he'⟩, rfl, q _ (I.hok.fresh (Nat.le_succ _))⟩
end
end Dw
set_option Elab.async false
set_option linter.all false
set_option maxRecDepth 100000
set_option maxHeartbeats 4000000
/-! Dw5: calls of built-ins on data. -/
namespace Dw
open PySem PySem.Spec PyProof.Rows L2
def dats (M : Mem) : List Rv → Option (List D)
  | [] => some []
  | r :: rs => match r.dat M, dats M rs with
    | some d, some ds => some (d :: ds)
    | _, _ => none
def RepFs (K : PySem.W.Frag) (H h : Hp) : List D → List V → Prop
  | [], vs => vs = []
  | d :: ds, vs => ∃ v us, vs = v :: us ∧ RepF K H h d v ∧ RepFs K H h ds us
theorem Sto.dats {K : PySem.W.Frag} {S A : List Addr} {H : Hp} {M : Mem} (s : Sto K S A H M) : ∀ {rs : List Rv} {vs : List V} {ds : List D}, RepVs K S A H rs vs → dats M rs = some ds → RepFs K H (view S A H) ds vs
  | [], _, _, r, e => by cases r; cases e; rfl
  | r :: rs, _, ds, ⟨v, us, e1, e2, e3⟩, e => by
    subst e1
    unfold Dw.dats at e
    cases z : r.dat M with
    | none => rw [z] at e; cases e
    | some d =>
      cases y : Dw.dats M rs with
      | none => rw [z, y] at e; cases e
      | some es => rw [z, y] at e; cases e; exact ⟨v, us, rfl, s.dat e2 z, Sto.dats s e3 y⟩
def CallD (K : PySem.W.Frag) (r : List V → Hp → VK → Prop) (F : List D → D → Prop) : Prop :=
  ∀ (S A : List Addr) (M : Mem) (H : Hp) (ds : List D) (z : D) (vs : List V) (R : VK), Sto K S A H M → RepFs K H (view S A H) ds vs → F ds z →
    (∀ w H', Same H H' → Rep K (view S A H') z w → R w H') → r vs H R
def wCB (F : List D → D → Prop) (ws : WA) : WE := fun env M Q => ws env M fun rs M1 => ∃ ds, dats M1 rs = some ds ∧ ∃ z, F ds z ∧ Q (.d z) M1
section
variable {X : Cx} {K : PySem.W.Frag} {a b c e : Expr} {es rest : List Expr} {wa wb wc we : WE} {wt wu : WT} {ws : WA} {p pos : Pos} {id T : String} {x : Str}
theorem dn_cb {r : List V → Hp → VK → Prop} {F : List D → D → Prop} {ta : TA} (h2 : CallD K r F) (ha : DnA K ta ws) : Dn K (tCB r ta) (wCB F ws) := by
  intro env M Q hw S A σ H R st en k
  refine ha env M _ hw S A σ H _ st en fun vs H1 rs M1 A1 p1 s1 q1 ⟨ds, ed, z, ez, hq⟩ => ?_
  exact h2 S A1 M1 H1 ds z vs R s1 (s1.dats q1 ed) ez fun w H' sm rw => k w H' (.d z) M1 A1 (p1.trans (s1.post sm)) (s1.grow sm) rw hq
theorem qe_cb {r : List V → Hp → VK → Prop} {F : List D → D → Prop} (hc : CallR X (.builtin id) r) (h2 : CallD X.K r F) (hg : Gl X x) (hm : X.mg x = none) (hv : bootBuiltins x = some (.builtin id)) (ha : QA X (e :: es) ws) (hn : x ≠ "__name__" := by decide) (hdb : (x == ("__debug__" : Str)) = false := by decide)
    (he : starEach (e :: es) X.env = (false, eval e X.env) :: starEach es X.env := by rfl) (hpl : (backTo pos (starEach es X.env)).any (·.1) = false := by rfl) : QE X (.Call (.Name x p) (e :: es) [] pos) (wCB F ws) := by
  obtain ⟨ta, pa, da⟩ := ha
  exact ⟨_, pe_callB hc hg hm hv pa hn hdb he hpl, dn_cb h2 da⟩
theorem qe_ct {r : List V → Hp → VK → Prop} {F : List D → D → Prop} (hc : CallR X (.type T) r) (h2 : CallD X.K r F) (hg : Gl X x) (hm : X.mg x = none) (hv : bootBuiltins x = some (.type T)) (ha : QA X (e :: es) ws) (hn : x ≠ "__name__" := by decide) (hdb : (x == ("__debug__" : Str)) = false := by decide)
    (he : starEach (e :: es) X.env = (false, eval e X.env) :: starEach es X.env := by rfl) (hpl : (backTo pos (starEach es X.env)).any (·.1) = false := by rfl) : QE X (.Call (.Name x p) (e :: es) [] pos) (wCB F ws) := by
  obtain ⟨ta, pa, da⟩ := ha
  exact ⟨_, pe_callTy hc hg hm hv pa hn hdb he hpl, dn_cb h2 da⟩
theorem CallD.or {r r' : List V → Hp → VK → Prop} {F F' : List D → D → Prop} (h : CallD K r F) (h' : CallD K r' F') : CallD K (fun xs H Q => r xs H Q ∨ r' xs H Q) (fun ds z => F ds z ∨ F' ds z) := by
  intro S A M H ds z vs R st q e k
  rcases e with e | e
  · exact .inl (h S A M H ds z vs R st q e k)
  · exact .inr (h' S A M H ds z vs R st q e k)
theorem RepFs.one {H h : Hp} {d : D} {vs : List V} (r : RepFs K H h [d] vs) : ∃ v, vs = [v] ∧ RepF K H h d v := by
  obtain ⟨v, us, e, q, q2⟩ := r
  cases q2
  exact ⟨v, e, q⟩
theorem RepFs.two {H h : Hp} {d e : D} {vs : List V} (r : RepFs K H h [d, e] vs) : ∃ v u, vs = [v, u] ∧ RepF K H h d v ∧ RepF K H h e u := by
  obtain ⟨v, us, e, q, q2⟩ := r
  obtain ⟨u, rfl, q3⟩ := q2.one
  exact ⟨v, u, e, q, q3⟩
/-! ### len -/
def fLen (ds : List D) (z : D) : Prop := match ds with
  | [.str x] => x.length ≤ sizeLine ∧ z = .int x.length
  | [.tup es] => z = .int es.length
  | [.lst es] => z = .int es.length
  | _ => False
theorem d1 {F : List D → D → Prop} {ds : List D} {z : D} (e : F ds z) (h0 : ¬ F [] z) (h2 : ∀ x y r, ¬ F (x :: y :: r) z) : ∃ x, ds = [x] ∧ F [x] z := by
  cases ds with
  | nil => exact (h0 e).elim
  | cons x r =>
    cases r with
    | nil => exact ⟨x, rfl, e⟩
    | cons y r => exact (h2 x y r e).elim
theorem d2 {F : List D → D → Prop} {ds : List D} {z : D} (e : F ds z) (h0 : ¬ F [] z) (h1 : ∀ x, ¬ F [x] z) (h2 : ∀ x y u r, ¬ F (x :: y :: u :: r) z) : ∃ x y, ds = [x, y] ∧ F [x, y] z := by
  cases ds with
  | nil => exact (h0 e).elim
  | cons x r =>
    cases r with
    | nil => exact (h1 x e).elim
    | cons y r =>
      cases r with
      | nil => exact ⟨x, y, rfl, e⟩
      | cons u r => exact (h2 x y u r e).elim
theorem cd_len : CallD K (fun xs H Q => ∃ x n, xs = [x] ∧ LenV K x H n ∧ Q (.int n) H) fLen := by
  intro S A M H ds z vs R st q e k
  obtain ⟨x, rfl, e⟩ := d1 e (fun e => e) (by intro x y r e; cases x <;> exact e)
  obtain ⟨v, rfl, q1⟩ := q.one
  clear q
  have q := q1; clear q1
  cases x with
  | str x =>
    cases q
    obtain ⟨h1, rfl⟩ : x.length ≤ sizeLine ∧ z = .int x.length := e
    exact ⟨_, x.length, rfl, ⟨h1, rfl⟩, k _ H (Same.refl _) rfl⟩
  | tup es =>
    obtain ⟨a, us, rfl, h1, h2⟩ := q
    have e : z = .int es.length := e
    subst e
    exact ⟨_, es.length, rfl, .inr ⟨us, same_t off_sub h1, h2.len.symm⟩, k _ H (Same.refl _) rfl⟩
  | lst es =>
    obtain ⟨a, us, rfl, h1, h2⟩ := q
    have e : z = .int es.length := e
    subst e
    exact ⟨_, es.length, rfl, .inl ⟨us, h1, h2.len.symm⟩, k _ H (Same.refl _) rfl⟩
  | _ => exact False.elim e
theorem qe_len (hg : Gl X "len") (hm : X.mg "len" = none) (ha : QA X [e] ws) (he : starEach [e] X.env = (false, eval e X.env) :: starEach [] X.env := by rfl) (hpl : (backTo pos (starEach [] X.env)).any (·.1) = false := by rfl) : QE X (.Call (.Name "len" p) [e] [] pos) (wCB fLen ws) :=
  qe_cb call_len cd_len hg hm boot_len ha (by decide) (by decide) he hpl
/-! ### isinstance of built-in types -/
def D.kind : D → Option String
  | .non => some "NoneType" | .bl _ => some "bool" | .int _ => some "int" | .str _ => some "str" | .tup _ => some "tuple" | .lst _ => some "list" | _ => none
def isiTab (k n : String) : Bool := k == n || (k == "bool" && n == "int")
def isiNames : List String := ["int", "bool", "str", "tuple", "list"]
theorem isi_tab : ∀ k ∈ ["NoneType", "bool", "int", "str", "tuple", "list"], ∀ n ∈ isiNames, kitB k n = some (isiTab k n) := by decide +kernel
def fIsi (ds : List D) (z : D) : Prop := match ds with
  | [x, .ty n] => n ∈ isiNames ∧ ∃ k, x.kind = some k ∧ z = .bl (isiTab k n)
  | _ => False
theorem RepF.ty {H h : Hp} {x : D} {v : V} {k : String} (e : Same h H) (r : RepF K H h x v) (q : x.kind = some k) : TyX K H v (.type k) := by
  cases x with
  | tup ds =>
    obtain ⟨a, vs, rfl, h1, h2⟩ := r
    cases q
    rcases same_t e h1 with (h1 | ⟨o, h1⟩) | ⟨o, its, n, h1, h3, _⟩
    · exact .base (.tup h1)
    · exact .fTuple h1
    · exact .kTuple h1 h3
  | lst ds =>
    obtain ⟨a, vs, rfl, h1, h2⟩ := r
    cases q
    rcases h1 with (h1 | ⟨o, h1⟩) | ⟨o, its, n, h1, h3, _⟩
    · exact .base (.lst h1)
    · exact .base (.frz h1)
    · exact .kList h1 h3
  | non => cases r; cases q; exact .base .non
  | bl b => cases r; cases q; exact .base (.bl b)
  | int i => cases r; cases q; exact .base (.int i)
  | str s => cases r; cases q; exact .base (.str s)
  | _ => cases q
theorem D.kind_mem {x : D} {k : String} (q : x.kind = some k) : k ∈ ["NoneType", "bool", "int", "str", "tuple", "list"] := by
  cases x <;> cases q <;> decide
theorem cd_isi : CallD K (rIsi K) fIsi := by
  intro S A M H ds z vs R st q e k
  obtain ⟨x, y, rfl, e⟩ := d2 e (fun e => e) (by intro x e; cases x <;> exact e) (by intro x y u r e; cases x <;> cases y <;> exact e)
  obtain ⟨v, u, rfl, q1, q2⟩ := q.two
  cases y with
  | ty n =>
    cases q2
    obtain ⟨hn, t, ht, rfl⟩ : n ∈ isiNames ∧ ∃ k, x.kind = some k ∧ z = .bl (isiTab k n) := e
    exact ⟨v, .ty n, .type t, .type n, _, rfl, .ty n, q1.ty off_sub ht, kit_ty (isi_tab t (D.kind_mem ht) n hn), k _ H (Same.refl _) rfl⟩
  | _ => exact False.elim e
theorem qe_isi (hg : Gl X "isinstance") (hm : X.mg "isinstance" = none) (ha : QA X [a, b] ws) (he : starEach [a, b] X.env = (false, eval a X.env) :: starEach [b] X.env := by rfl) (hpl : (backTo pos (starEach [b] X.env)).any (·.1) = false := by rfl) : QE X (.Call (.Name "isinstance" p) [a, b] [] pos) (wCB fIsi ws) :=
  qe_cb call_isi cd_isi hg hm boot_isinstance ha (by decide) (by decide) he hpl
/-! ### numbers -/
def fInt (ds : List D) (z : D) : Prop := match ds with
  | [.int i] => z = .int i
  | [.bl k] => z = .int (if k then 1 else 0)
  | _ => False
theorem cd_int : CallD K (fun xs H Q => (∃ i, xs = [.int i] ∧ Q (.int i) H) ∨ ∃ k, xs = [.bl k] ∧ Q (.int (if k then 1 else 0)) H) fInt := by
  intro S A M H ds z vs R st q e k
  obtain ⟨x, rfl, e⟩ := d1 e (fun e => e) (by intro x y r e; cases x <;> exact e)
  obtain ⟨v, rfl, q1⟩ := q.one
  clear q
  have q := q1; clear q1
  cases x with
  | int i => cases q; cases e; exact .inl ⟨i, rfl, k _ H (Same.refl _) rfl⟩
  | bl b => cases q; cases e; exact .inr ⟨b, rfl, k _ H (Same.refl _) rfl⟩
  | _ => exact False.elim e
theorem qe_intc (hg : Gl X "int") (hm : X.mg "int" = none) (ha : QA X [e] ws) (he : starEach [e] X.env = (false, eval e X.env) :: starEach [] X.env := by rfl) (hpl : (backTo pos (starEach [] X.env)).any (·.1) = false := by rfl) : QE X (.Call (.Name "int" p) [e] [] pos) (wCB fInt ws) :=
  qe_ct call_int1 cd_int hg hm boot_int ha (by decide) (by decide) he hpl
def fAbs (ds : List D) (z : D) : Prop := match ds with
  | [.int i] => z = .int (if i < 0 then -i else i)
  | _ => False
theorem cd_abs : CallD K (fun xs H Q => ∃ i, xs = [.int i] ∧ Q (.int (if i < 0 then -i else i)) H) fAbs := by
  intro S A M H ds z vs R st q e k
  obtain ⟨x, rfl, e⟩ := d1 e (fun e => e) (by intro x y r e; cases x <;> exact e)
  obtain ⟨v, rfl, q1⟩ := q.one
  clear q
  have q := q1; clear q1
  cases x with
  | int i => cases q; cases e; exact ⟨i, rfl, k _ H (Same.refl _) rfl⟩
  | _ => exact False.elim e
theorem qe_abs (hg : Gl X "abs") (hm : X.mg "abs" = none) (ha : QA X [e] ws) (he : starEach [e] X.env = (false, eval e X.env) :: starEach [] X.env := by rfl) (hpl : (backTo pos (starEach [] X.env)).any (·.1) = false := by rfl) : QE X (.Call (.Name "abs" p) [e] [] pos) (wCB fAbs ws) :=
  qe_cb call_abs cd_abs hg hm boot_abs ha (by decide) (by decide) he hpl
def fMax2 (ds : List D) (z : D) : Prop := match ds with
  | [.int i, .int j] => z = .int (max i j)
  | _ => False
def fMin2 (ds : List D) (z : D) : Prop := match ds with
  | [.int i, .int j] => z = .int (min i j)
  | _ => False
theorem cd_max2 : CallD K (fun xs H Q => ∃ i j, xs = [.int i, .int j] ∧ Q (.int (if j > i then j else i)) H) fMax2 := by
  intro S A M H ds z vs R st q e k
  obtain ⟨x, y, rfl, e⟩ := d2 e (fun e => e) (by intro x e; cases x <;> exact e) (by intro x y u r e; cases x <;> cases y <;> exact e)
  obtain ⟨v, u, rfl, q1, q2⟩ := q.two
  cases x with
  | int i =>
    cases y with
    | int j =>
      cases q1; cases q2; cases e
      exact ⟨i, j, rfl, k _ H (Same.refl _) (by
        show V.int _ = V.int _
        congr 1
        by_cases h : j > i
        · rw [if_pos h]; omega
        · rw [if_neg h]; omega)⟩
    | _ => exact False.elim e
  | _ => exact False.elim e
theorem cd_min2 : CallD K (fun xs H Q => ∃ i j, xs = [.int i, .int j] ∧ Q (.int (if j < i then j else i)) H) fMin2 := by
  intro S A M H ds z vs R st q e k
  obtain ⟨x, y, rfl, e⟩ := d2 e (fun e => e) (by intro x e; cases x <;> exact e) (by intro x y u r e; cases x <;> cases y <;> exact e)
  obtain ⟨v, u, rfl, q1, q2⟩ := q.two
  cases x with
  | int i =>
    cases y with
    | int j =>
      cases q1; cases q2; cases e
      exact ⟨i, j, rfl, k _ H (Same.refl _) (by
        show V.int _ = V.int _
        congr 1
        by_cases h : j < i
        · rw [if_pos h]; omega
        · rw [if_neg h]; omega)⟩
    | _ => exact False.elim e
  | _ => exact False.elim e
theorem qe_max2 (hc : X.calm = true) (hg : Gl X "max") (hm : X.mg "max" = none) (ha : QA X [a, b] ws) (he : starEach [a, b] X.env = (false, eval a X.env) :: starEach [b] X.env := by rfl) (hpl : (backTo pos (starEach [b] X.env)).any (·.1) = false := by rfl) : QE X (.Call (.Name "max" p) [a, b] [] pos) (wCB fMax2 ws) :=
  qe_cb (call_max2 hc) cd_max2 hg hm boot_max ha (by decide) (by decide) he hpl
theorem qe_min2 (hc : X.calm = true) (hg : Gl X "min") (hm : X.mg "min" = none) (ha : QA X [a, b] ws) (he : starEach [a, b] X.env = (false, eval a X.env) :: starEach [b] X.env := by rfl) (hpl : (backTo pos (starEach [b] X.env)).any (·.1) = false := by rfl) : QE X (.Call (.Name "min" p) [a, b] [] pos) (wCB fMin2 ws) :=
  qe_cb (call_min2 hc) cd_min2 hg hm boot_min ha (by decide) (by decide) he hpl
/-! ### of lists -/
def fSum (ds : List D) (z : D) : Prop := ∃ ns : List Int, ds = [.lst (ns.map .int)] ∧ z = .int ns.sum
theorem cd_sum : CallD K (rSum K) fSum := by
  intro S A M H ds z vs R st q e k
  obtain ⟨ns, rfl, rfl⟩ := e
  obtain ⟨v, rfl, a, us, rfl, h1, h2⟩ := q.one
  rw [h2.ints] at h1
  exact ⟨a, ns, rfl, h1, k _ H (Same.refl _) rfl⟩
theorem qe_sum (hc : X.calm = true) (hg : Gl X "sum") (hm : X.mg "sum" = none) (ha : QA X [e] ws) (he : starEach [e] X.env = (false, eval e X.env) :: starEach [] X.env := by rfl) (hpl : (backTo pos (starEach [] X.env)).any (·.1) = false := by rfl) : QE X (.Call (.Name "sum" p) [e] [] pos) (wCB fSum ws) :=
  qe_cb (cr_sum hc) cd_sum hg hm boot_sum ha (by decide) (by decide) he hpl
/-- max, min of a list: its value is the one that is there and none greater -/
def fMax (ds : List D) (z : D) : Prop := ∃ (ns : List Int) (m : Int), ds = [.lst (ns.map .int)] ∧ m ∈ ns ∧ (∀ y ∈ ns, y ≤ m) ∧ z = .int m
def fMin (ds : List D) (z : D) : Prop := ∃ (ns : List Int) (m : Int), ds = [.lst (ns.map .int)] ∧ m ∈ ns ∧ (∀ y ∈ ns, m ≤ y) ∧ z = .int m
theorem cd_max : CallD K (rMax K) fMax := by
  intro S A M H ds z vs R st q e k
  obtain ⟨ns, m, rfl, hm, hg, rfl⟩ := e
  obtain ⟨v, rfl, a, us, rfl, h1, h2⟩ := q.one
  rw [h2.ints] at h1
  refine ⟨a, ns, rfl, h1, List.length_pos_of_mem hm, fun m' h3 h4 => ?_⟩
  have e : m' = m := by have := hg m' h3; have := h4 m hm; omega
  subst e
  exact k _ H (Same.refl _) rfl
theorem cd_min : CallD K (rMin K) fMin := by
  intro S A M H ds z vs R st q e k
  obtain ⟨ns, m, rfl, hm, hg, rfl⟩ := e
  obtain ⟨v, rfl, a, us, rfl, h1, h2⟩ := q.one
  rw [h2.ints] at h1
  refine ⟨a, ns, rfl, h1, List.length_pos_of_mem hm, fun m' h3 h4 => ?_⟩
  have e : m' = m := by have := hg m' h3; have := h4 m hm; omega
  subst e
  exact k _ H (Same.refl _) rfl
theorem qe_max (hc : X.calm = true) (hg : Gl X "max") (hm : X.mg "max" = none) (ha : QA X [e] ws) (he : starEach [e] X.env = (false, eval e X.env) :: starEach [] X.env := by rfl) (hpl : (backTo pos (starEach [] X.env)).any (·.1) = false := by rfl) : QE X (.Call (.Name "max" p) [e] [] pos) (wCB fMax ws) :=
  qe_cb (cr_max hc) cd_max hg hm boot_max ha (by decide) (by decide) he hpl
theorem qe_min (hc : X.calm = true) (hg : Gl X "min") (hm : X.mg "min" = none) (ha : QA X [e] ws) (he : starEach [e] X.env = (false, eval e X.env) :: starEach [] X.env := by rfl) (hpl : (backTo pos (starEach [] X.env)).any (·.1) = false := by rfl) : QE X (.Call (.Name "min" p) [e] [] pos) (wCB fMin ws) :=
  qe_cb (cr_min hc) cd_min hg hm boot_min ha (by decide) (by decide) he hpl
def fAll (ds : List D) (z : D) : Prop := ∃ bs : List Bool, ds = [.lst (bs.map .bl)] ∧ z = .bl (bs.all (fun b => b))
def fAny (ds : List D) (z : D) : Prop := ∃ bs : List Bool, ds = [.lst (bs.map .bl)] ∧ z = .bl (bs.any (fun b => b))
theorem cd_all : CallD K (rAll K) fAll := by
  intro S A M H ds z vs R st q e k
  obtain ⟨bs, rfl, rfl⟩ := e
  obtain ⟨v, rfl, a, us, rfl, h1, h2⟩ := q.one
  rw [h2.bls] at h1
  exact ⟨a, bs, rfl, h1, k _ H (Same.refl _) rfl⟩
theorem cd_any : CallD K (rAny K) fAny := by
  intro S A M H ds z vs R st q e k
  obtain ⟨bs, rfl, rfl⟩ := e
  obtain ⟨v, rfl, a, us, rfl, h1, h2⟩ := q.one
  rw [h2.bls] at h1
  exact ⟨a, bs, rfl, h1, k _ H (Same.refl _) rfl⟩
theorem qe_all (hc : X.calm = true) (hg : Gl X "all") (hm : X.mg "all" = none) (ha : QA X [e] ws) (he : starEach [e] X.env = (false, eval e X.env) :: starEach [] X.env := by rfl) (hpl : (backTo pos (starEach [] X.env)).any (·.1) = false := by rfl) : QE X (.Call (.Name "all" p) [e] [] pos) (wCB fAll ws) :=
  qe_cb (cr_all hc) cd_all hg hm boot_all ha (by decide) (by decide) he hpl
theorem qe_any (hc : X.calm = true) (hg : Gl X "any") (hm : X.mg "any" = none) (ha : QA X [e] ws) (he : starEach [e] X.env = (false, eval e X.env) :: starEach [] X.env := by rfl) (hpl : (backTo pos (starEach [] X.env)).any (·.1) = false := by rfl) : QE X (.Call (.Name "any" p) [e] [] pos) (wCB fAny ws) :=
  qe_cb (cr_any hc) cd_any hg hm boot_any ha (by decide) (by decide) he hpl
/-- tuple(list or tuple), list(list or tuple) -/
def fTup (ds : List D) (z : D) : Prop := match ds with
  | [x] => ∃ es, x.items = some es ∧ z = .tup es
  | _ => False
def fList (ds : List D) (z : D) : Prop := match ds with
  | [x] => ∃ es, x.items = some es ∧ z = .lst es
  | _ => False
theorem cd_tup : CallD K (fun xs H Q => ∃ p ys, xs = [.ref p] ∧ ((SqL K H p ys ∧ ∀ l, H l = none → Q (.ref l) (upd H l (.tup ys))) ∨ (SqT K H p ys ∧ Q (.ref p) H))) fTup := by
  intro S A M H ds z vs R st q e k
  obtain ⟨x, rfl, e⟩ := d1 e (fun e => e) (by intro x y r e; cases x <;> exact e)
  obtain ⟨es, ei, rfl⟩ : ∃ es, x.items = some es ∧ z = .tup es := e
  obtain ⟨v, rfl, q1⟩ := q.one
  clear q
  have q := q1; clear q1
  cases x with
  | tup fs =>
    cases ei
    obtain ⟨a, us, rfl, h1, h2⟩ := q
    exact ⟨a, us, rfl, .inr ⟨same_t off_sub h1, k _ H (Same.refl _) ⟨a, us, rfl, h1, h2⟩⟩⟩
  | lst fs =>
    cases ei
    obtain ⟨a, us, rfl, h1, h2⟩ := q
    refine ⟨a, us, rfl, .inl ⟨h1, fun l hl => ?_⟩⟩
    have sm := same_upd (o := .tup us) hl
    exact k _ _ sm ⟨l, us, rfl, .inl (.inl (view_at st hl)), Reps.mono (off_same sm) _ _ h2⟩
  | _ => cases ei
theorem cd_list : CallD K (fun xs H Q => ∃ p ys, xs = [.ref p] ∧ (SqL K H p ys ∨ SqT K H p ys) ∧ ∀ l, H l = none → Q (.ref l) (upd H l (.lst ys))) fList := by
  intro S A M H ds z vs R st q e k
  obtain ⟨x, rfl, e⟩ := d1 e (fun e => e) (by intro x y r e; cases x <;> exact e)
  obtain ⟨es, ei, rfl⟩ : ∃ es, x.items = some es ∧ z = .lst es := e
  obtain ⟨v, rfl, q1⟩ := q.one
  clear q
  have q := q1; clear q1
  obtain ⟨a, us, rfl, h1, h2⟩ := q.items off_sub ei
  refine ⟨a, us, rfl, h1, fun l hl => ?_⟩
  have sm := same_upd (o := .lst us) hl
  exact k _ _ sm ⟨l, us, rfl, .inl (.inl (view_at st hl)), Reps.mono (off_same sm) _ _ h2⟩
theorem qe_tuple (hg : Gl X "tuple") (hm : X.mg "tuple" = none) (ha : QA X [e] ws) (he : starEach [e] X.env = (false, eval e X.env) :: starEach [] X.env := by rfl) (hpl : (backTo pos (starEach [] X.env)).any (·.1) = false := by rfl) : QE X (.Call (.Name "tuple" p) [e] [] pos) (wCB fTup ws) :=
  qe_ct call_tuple_of cd_tup hg hm boot_tuple ha (by decide) (by decide) he hpl
theorem qe_list (hg : Gl X "list") (hm : X.mg "list" = none) (ha : QA X [e] ws) (he : starEach [e] X.env = (false, eval e X.env) :: starEach [] X.env := by rfl) (hpl : (backTo pos (starEach [] X.env)).any (·.1) = false := by rfl) : QE X (.Call (.Name "list" p) [e] [] pos) (wCB fList ws) :=
  qe_ct call_list_of cd_list hg hm boot_list ha (by decide) (by decide) he hpl
/-! ### sorted -/
def D.key (d : D) : PyData := d.py.getD .none
def dLeB (a b : D) : Bool := PySem.W.dataLe false D.key a b
def fSorted (ds : List D) (z : D) : Prop := match ds with
  | [x] => ∃ es ps, x.items = some es ∧ D.pys es = some ps ∧ SrtOk ps ∧ z = .lst (es.mergeSort dLeB)
  | _ => False
theorem trip {h : Hp} : ∀ {es : List D} {vs : List V} {ps : List PyData}, Reps K h es vs → D.pys es = some ps → ∃ ts : List (D × V × PyData), ts.map (·.1) = es ∧ ts.map (·.2) = vs.zip ps ∧ ∀ t ∈ ts, Rep K h t.1 t.2.1 ∧ t.1.py = some t.2.2
  | [], _, _, r, e => by cases r; simp [D.pys] at e; subst e; exact ⟨[], rfl, rfl, by simp⟩
  | d :: es, _, ps, ⟨v, us, e1, e2, e3⟩, e => by
    subst e1
    cases z : D.py d with
    | none => simp [D.pys, z] at e
    | some a =>
      cases y : D.pys es with
      | none => simp [D.pys, z, y] at e
      | some b =>
        simp [D.pys, z, y] at e
        subst e
        obtain ⟨ts, h1, h2, h3⟩ := trip e3 y
        refine ⟨(d, v, a) :: ts, by rw [List.map_cons, h1], by rw [List.map_cons, h2]; rfl, fun t ht => ?_⟩
        rcases List.mem_cons.mp ht with rfl | ht
        · exact ⟨e2, z⟩
        · exact h3 t ht
theorem reps_of {h : Hp} : ∀ {ts : List (D × V × PyData)}, (∀ t ∈ ts, Rep K h t.1 t.2.1) → Reps K h (ts.map (·.1)) (ts.map (·.2.1))
  | [], _ => rfl
  | t :: ts, q => ⟨_, _, rfl, q t List.mem_cons_self, reps_of fun u hu => q u (List.mem_cons_of_mem _ hu)⟩
theorem cd_sorted : CallD K (rSortG K) fSorted := by
  intro S A M H ds z vs R st q e k
  obtain ⟨x, rfl, e⟩ := d1 e (fun e => e) (by intro x y r e; cases x <;> exact e)
  obtain ⟨es, ps, ei, ep, ok, rfl⟩ : ∃ es ps, x.items = some es ∧ D.pys es = some ps ∧ SrtOk ps ∧ z = .lst (es.mergeSort dLeB) := e
  obtain ⟨v, rfl, q1⟩ := q.one
  clear q
  have q := q1; clear q1
  obtain ⟨a, us, rfl, h1, h2⟩ := q.items off_sub ei
  refine ⟨a, us, ps, rfl, h1, Reps.dp off_sub es us ps h2 ep, ok, fun p hp => ?_⟩
  obtain ⟨ts, t1, t2, t3⟩ := trip h2 ep
  have m1 : (ts.mergeSort (fun t u => PySem.W.dataLe false (fun b : V × PyData => b.2) t.2 u.2)).map (·.1) = es.mergeSort dLeB := by
    rw [← t1]
    refine List.map_mergeSort fun t ht u hu => ?_
    have a1 : D.key t.1 = t.2.2 := by unfold D.key; rw [(t3 t ht).2]; rfl
    have a2 : D.key u.1 = u.2.2 := by unfold D.key; rw [(t3 u hu).2]; rfl
    unfold dLeB PySem.W.dataLe PySem.W.sortLe
    dsimp only
    rw [a1, a2]
  have m2 : (ts.mergeSort (fun t u => PySem.W.dataLe false (fun b : V × PyData => b.2) t.2 u.2)).map (·.2) = (us.zip ps).mergeSort (PySem.W.dataLe false (·.2)) := by
    rw [← t2]
    exact List.map_mergeSort fun t ht u hu => rfl
  have sm := same_upd (o := .lst (((us.zip ps).mergeSort (PySem.W.dataLe false (·.2))).map (·.1))) hp
  refine k _ _ sm ⟨p, _, rfl, .inl (.inl (view_at st hp)), Reps.mono (off_same sm) _ _ ?_⟩
  rw [← m1, ← m2, List.map_map]
  exact reps_of fun t ht => (t3 t (List.mem_mergeSort.mp ht)).1
theorem qe_sorted (hu : X.A.units + 70 < cLine) (hg : Gl X "sorted") (hm : X.mg "sorted" = none) (ha : QA X [e] ws) (he : starEach [e] X.env = (false, eval e X.env) :: starEach [] X.env := by rfl) (hpl : (backTo pos (starEach [] X.env)).any (·.1) = false := by rfl) : QE X (.Call (.Name "sorted" p) [e] [] pos) (wCB fSorted ws) :=
  qe_cb (cr_sortG hu) cd_sorted hg hm boot_sorted ha (by decide) (by decide) he hpl
end
end Dw
set_option Elab.async false
set_option linter.all false
set_option maxRecDepth 100000
set_option maxHeartbeats 4000000
/-! Dw6: targets, what is walked, comprehensions. -/
namespace Dw
open PySem PySem.Spec PyProof.Rows L2
/-! ### more room -/
section
variable {K : PySem.W.Frag} {S S' A A' : List Addr} {H H' : Hp} {M M' : Mem} {env : Env'} {σ : L2.St}
theorem RepV.to {r : Rv} {v : V} (h : RepV K S A H r v) (p : A <+: A') (e : Same (view S A H) (view S' A' H')) : RepV K S' A' H' r v := by
  cases r with
  | d x => exact Rep.mono e x v h
  | o k =>
    obtain ⟨a, q, rfl⟩ := h
    obtain ⟨t, rfl⟩ := p
    have hk : k < A.length := (List.getElem?_eq_some_iff.mp q).1
    exact ⟨a, by rw [List.getElem?_append_left hk]; exact q, rfl⟩
theorem EnvOk.to (h : EnvOk K S A H env σ) (p : A <+: A') (e : Same (view S A H) (view S' A' H')) : EnvOk K S' A' H' env σ :=
  ⟨h.len, fun i r q => let ⟨v, e1, e2⟩ := h.at_ i r q; ⟨v, e1, e2.to p e⟩⟩
theorem MOk.to {a : Addr} {mo : MO} (h : MOk K S A H a mo) (k : H' a = H a) (e : Same (view S A H) (view S' A' H')) : MOk K S' A' H' a mo := by
  cases mo with
  | lst ds => obtain ⟨vs, q1, q2⟩ := h; exact ⟨vs, by rw [k]; exact q1, Reps.mono e _ _ q2⟩
  | gone => obtain ⟨o, q1⟩ := h; exact ⟨o, by rw [k]; exact q1⟩
end
/-! ### targets -/
abbrev WG := Rv → Env' → Mem → (Env' → Mem → Prop) → Prop
abbrev WGs := List D → Env' → Mem → (Env' → Mem → Prop) → Prop
/-- ss: the slots that are stored -/
def DnG (K : PySem.W.Frag) (ss : List Nat) (g : TG) (wg : WG) : Prop := ∀ r env M Q, wg r env M Q → ∀ (S A : List Addr) (σ : L2.St) (H : Hp) (v : V) (R : L2.St → Hp → Prop), Sto K S A H M → EnvOk K S A H env σ → RepV K S A H r v →
  (∀ (σ' : L2.St) (H' : Hp) (env' : Env') (M' : Mem) (A' : List Addr), Post S A H A' H' → Sto K S A' H' M' → EnvOk K S A' H' env' σ' → (∀ vs : List Nat, (∀ i ∈ ss, i ∈ vs) → wipe σ' vs = wipe σ vs) → Q env' M' → R σ' H') → g v σ H R
def DnGs (K : PySem.W.Frag) (ss : List Nat) (g : TGs) (wg : WGs) : Prop := ∀ ds env M Q, wg ds env M Q → ∀ (S A : List Addr) (σ : L2.St) (H : Hp) (vs : List V) (R : L2.St → Hp → Prop), Sto K S A H M → EnvOk K S A H env σ → Reps K (view S A H) ds vs →
  (∀ (σ' : L2.St) (H' : Hp) (env' : Env') (M' : Mem) (A' : List Addr), Post S A H A' H' → Sto K S A' H' M' → EnvOk K S A' H' env' σ' → (∀ vs : List Nat, (∀ i ∈ ss, i ∈ vs) → wipe σ' vs = wipe σ vs) → Q env' M' → R σ' H') → g vs σ H R
def QG (X : Cx) (ss : List Nat) (tg : Expr) (wg : WG) : Prop := ∃ g, PG X tg g ∧ DnG X.K ss g wg
def QGs (X : Cx) (ss : List Nat) (tgs : List Expr) (wg : WGs) : Prop := ∃ g, PGs X tgs g ∧ DnGs X.K ss g wg
def gN (i : Nat) : WG := fun r env M Q => Q (env.set i (some r)) M
def gsNil : WGs := fun ds env M Q => ds = [] ∧ Q env M
def gsCons (g : WG) (gs : WGs) : WGs := fun ds env M Q => ∃ d, ds.head? = some d ∧ g (.d d) env M fun env1 M1 => gs ds.tail env1 M1 Q
theorem wipe_set {σ : L2.St} {i : Nat} {x : Option V} : ∀ {vs : List Nat}, i ∈ vs → wipe (σ.set i x) vs = wipe σ vs
  | v :: vs, h => by
    unfold wipe
    by_cases hi : i ∈ vs
    · rw [wipe_set hi]
    · have e : i = v := by
        rcases List.mem_cons.mp h with h | h
        · exact h
        · exact (hi h).elim
      subst e
      have : ∀ ws : List Nat, i ∉ ws → wipe (σ.set i x) ws = (wipe σ ws).set i x := by
        intro ws
        induction ws with
        | nil => intro _; rfl
        | cons w ws ih =>
          intro hw
          unfold wipe
          rw [ih (fun z => hw (List.mem_cons_of_mem _ z)), List.set_comm _ _ (fun z => hw (by rw [z]; exact List.mem_cons_self))]
      rw [this vs hi, List.set_set]
section
variable {X : Cx} {K : PySem.W.Frag} {pos : Pos} {ss : List Nat} {e : Expr} {es : List Expr}
theorem dn_gN {i : Nat} : DnG K [i] (gName i) (gN i) := by
  intro r env M Q hw S A σ H v R st en rv k
  exact k _ H _ M A Post.refl st (en.set rv) (fun vs h => wipe_set (h i (by simp))) hw
theorem qg_name {i : Nat} {x : Str} (hN : X.N.Nodup) (hi : X.N[i]? = some x) (hx : Loc X.env.scope x) (hf : X.fn x = true ∨ X.env.scope.names.lookup x = some .local := by first | exact .inl rfl | exact .inr rfl | assumption) : QG X [i] (.Name x pos) (gN i) :=
  ⟨_, pg_name hN hi hx hf, dn_gN⟩
theorem qgs_nil : QGs X [] [] gsNil := by
  refine ⟨_, pgs_nil, fun ds env M Q hw S A σ H vs R st en rv k => ?_⟩
  obtain ⟨rfl, hw⟩ := hw
  cases rv
  exact ⟨rfl, k σ H env M A Post.refl st en (fun _ _ => rfl) hw⟩
theorem dn_gcons {s1 s2 : List Nat} {g : TG} {gs : TGs} {wg : WG} {wgs : WGs} (h : DnG K s1 g wg) (hs : DnGs K s2 gs wgs) : DnGs K (s1 ++ s2) (gCons g gs) (gsCons wg wgs) := by
  intro ds env M Q hw S A σ H vs R st en rv k
  obtain ⟨d, ed, hw⟩ := hw
  obtain ⟨r, rfl⟩ : ∃ r, ds = d :: r := ⟨ds.tail, headTail ed⟩
  obtain ⟨v, us, rfl, r1, r2⟩ := rv
  refine ⟨v, us, rfl, h _ env M _ hw S A σ H v _ st en r1 fun σ1 H1 env1 M1 A1 p1 s1' e1 w1 hw1 => ?_⟩
  refine hs _ env1 M1 _ hw1 S A1 σ1 H1 us _ s1' e1 (Reps.mono p1.view _ _ r2) fun σ2 H2 env2 M2 A2 p2 s2' e2 w2 hq => ?_
  exact k σ2 H2 env2 M2 A2 (p1.trans p2) s2' e2 (fun vs hv => (w2 vs fun i hi => hv i (List.mem_append_right _ hi)).trans (w1 vs fun i hi => hv i (List.mem_append_left _ hi))) hq
theorem qgs_cons {s1 s2 : List Nat} {wg : WG} {wgs : WGs} (h : QG X s1 e wg) (g : QGs X s2 es wgs)
    (hs : (assignEach (e :: es) X.env).map (·.2) = assign e X.env :: (assignEach es X.env).map (·.2) := by rfl) : QGs X (s1 ++ s2) (e :: es) (gsCons wg wgs) := by
  obtain ⟨t, p, d⟩ := h
  obtain ⟨ts, ps, ds⟩ := g
  exact ⟨_, pgs_cons p ps hs, dn_gcons d ds⟩
end
section
variable {X : Cx} {K : PySem.W.Frag} {pos : Pos} {ss : List Nat} {e : Expr} {es : List Expr}
/-- n names out of a tuple of n -/
def gTn (n : Nat) (gs : WGs) : WG := fun r env M Q => ∃ ds, r = .d (.tup ds) ∧ ds.length = n ∧ gs ds env M Q
theorem qg_tupn {kk : Nat} {wgs : WGs} {n : Nat} (hc : X.calm = true) (h : QGs X ss es wgs)
    (hn : (assignEach es X.env).length = n := by rfl) (hst : (assignEach es X.env).findIdx? (·.1) = none := by rfl) : QG X ss (.Tuple es kk pos) (gTn n wgs) := by
  obtain ⟨ts, ps, dd⟩ := h
  refine ⟨_, pg_tup hc ps hn hst, fun r env M Q hw S A σ H v R st en rv k => ?_⟩
  obtain ⟨ds, rfl, hl, hw⟩ := hw
  obtain ⟨a, vs, rfl, h1, h2⟩ := rv
  refine ⟨a, vs, rfl, same_t off_sub h1, by rw [h2.len]; exact hl, ?_⟩
  exact dd ds env M Q hw S A σ H vs R st en h2 k
end

/-! ### what is walked -/
/-- J walks the items ds, in any later heap -/
def Wlk (K : PySem.W.Frag) (S A : List Addr) (H : Hp) (J : It) (ds : List D) : Prop :=
  ∀ (S' A' : List Addr) (H' : Hp), Same (view S A H) (view S' A' H') → (∀ a ∈ S' ++ A', ∃ o, H' a = some o) →
    (∀ (i : Nat) (d : D), ds[i]? = some d → J.go i H' ∧ ∀ x H2, J.yld i H' x H2 → Same H' H2 ∧ Rep K (view S' A' H2) d x) ∧ ∀ i, ds.length ≤ i → J.stop i H'
abbrev WI := Env' → Mem → (List D → Mem → Prop) → Prop
def DnI (K : PySem.W.Frag) (ti : TI) (wi : WI) : Prop := ∀ env M Q, wi env M Q → ∀ (S A : List Addr) (σ : L2.St) (H : Hp) (R : It → Hp → Prop), Sto K S A H M → EnvOk K S A H env σ →
  (∀ (J : It) (H' : Hp) (ds : List D) (M' : Mem) (A' : List Addr), Post S A H A' H' → Sto K S A' H' M' → Wlk K S A' H' J ds → Q ds M' → R J H') → ti σ H R
def QI (X : Cx) (tg iter : Expr) (wi : WI) : Prop := ∃ ti, PI X tg iter ti ∧ DnI X.K ti wi
section
variable {X : Cx} {K : PySem.W.Frag} {tg e a b : Expr} {we : WE} {ws : WA} {p pos : Pos}
def iL (we : WE) : WI := fun env M Q => we env M fun r M1 => ∃ ds, r = .d (.lst ds) ∧ Q ds M1
def iT (we : WE) : WI := fun env M Q => we env M fun r M1 => ∃ ds, r = .d (.tup ds) ∧ Q ds M1
theorem wlk_l {S A : List Addr} {H : Hp} {a : Addr} {vs : List V} {ds : List D} (h1 : SqL K (view S A H) a vs) (h2 : Reps K (view S A H) ds vs) : Wlk K S A H (Itl K a) ds := by
  intro S' A' H' sm tr
  have h3 : SqL K H' a vs := same_l (sm.trans off_sub) h1
  have h4 := Reps.mono sm _ _ h2
  refine ⟨fun i d e => ?_, fun i hi => ⟨vs, h3, by rw [h4.len]; exact hi⟩⟩
  obtain ⟨v, e1, e2⟩ := h4.get e
  refine ⟨⟨vs, v, h3, e1⟩, fun x H2 y => ?_⟩
  obtain ⟨rfl, y⟩ := y
  have := y vs h3
  rw [e1] at this
  cases this
  exact ⟨Same.refl _, e2⟩

theorem wlk_t {S A : List Addr} {H : Hp} {a : Addr} {vs : List V} {ds : List D} (h1 : SqT K (view S A H) a vs) (h2 : Reps K (view S A H) ds vs) : Wlk K S A H (Itt K a) ds := by
  intro S' A' H' sm tr
  have h3 : SqT K H' a vs := same_t (sm.trans off_sub) h1
  have h4 := Reps.mono sm _ _ h2
  refine ⟨fun i d e => ?_, fun i hi => ⟨vs, h3, by rw [h4.len]; exact hi⟩⟩
  obtain ⟨v, e1, e2⟩ := h4.get e
  refine ⟨⟨vs, v, h3, e1⟩, fun x H2 y => ?_⟩
  obtain ⟨rfl, y⟩ := y
  have := y vs h3
  rw [e1] at this
  cases this
  exact ⟨Same.refl _, e2⟩
theorem qi_list (h : QE X e we) : QI X tg e (iL we) := by
  obtain ⟨te, pe, de⟩ := h
  refine ⟨_, pi_list pe, fun env M Q hw S A σ H R st en k => ?_⟩
  refine de env M _ hw S A σ H _ st en fun v H1 x M1 A1 p1 s1 q1 ⟨ds, e, hq⟩ => ?_
  subst e
  obtain ⟨a, vs, rfl, h1, h2⟩ := q1
  exact ⟨a, rfl, ⟨vs, same_l off_sub h1⟩, k _ H1 ds M1 A1 p1 s1 (wlk_l h1 h2) hq⟩
theorem qi_tup (h : QE X e we) : QI X tg e (iT we) := by
  obtain ⟨te, pe, de⟩ := h
  refine ⟨_, pi_tup pe, fun env M Q hw S A σ H R st en k => ?_⟩
  refine de env M _ hw S A σ H _ st en fun v H1 x M1 A1 p1 s1 q1 ⟨ds, e, hq⟩ => ?_
  subst e
  obtain ⟨a, vs, rfl, h1, h2⟩ := q1
  exact ⟨a, rfl, ⟨vs, same_t off_sub h1⟩, k _ H1 ds M1 A1 p1 s1 (wlk_t h1 h2) hq⟩
/-- lo, lo + 1, .. -/
def rngD (lo : Int) (n : Nat) : List D := (List.range n).map fun i => .int (lo + (i : Nat))
theorem rngD_get {lo : Int} {n i : Nat} {d : D} (h : (rngD lo n)[i]? = some d) : i < n ∧ d = .int (lo + (i : Nat)) := by
  unfold rngD at h
  rw [List.getElem?_map] at h
  by_cases hi : i < n
  · rw [List.getElem?_range hi] at h
    simp at h
    exact ⟨hi, h.symm⟩
  · rw [List.getElem?_eq_none (by simpa using hi)] at h
    cases h
theorem rngD_len {lo : Int} {n : Nat} : (rngD lo n).length = n := by simp [rngD]
theorem wlk_r {S A : List Addr} {H : Hp} {lo : Int} {n : Nat} : Wlk K S A H (Itr lo n) (rngD lo n) := by
  intro S' A' H' sm tr
  refine ⟨fun i d e => ?_, fun i hi => by rw [rngD_len] at hi; exact hi⟩
  obtain ⟨h1, rfl⟩ := rngD_get e
  exact ⟨h1, fun x H2 ⟨y1, y2⟩ => by subst y1; exact ⟨Same.refl _, y2⟩⟩
def iR1 (ws : WA) : WI := fun env M Q => ws env M fun rs M1 => ∃ j, rs = [.d (.int j)] ∧ (-(2 ^ 62) ≤ j ∧ j < 2 ^ 62) ∧ Q (rngD 0 j.toNat) M1
def iR2 (ws : WA) : WI := fun env M Q => ws env M fun rs M1 => ∃ i, rs.head? = some (.d (.int i)) ∧ ∃ j, rs.tail = [.d (.int j)] ∧ (-(2 ^ 62) ≤ i ∧ i < 2 ^ 62 ∧ -(2 ^ 62) ≤ j ∧ j < 2 ^ 62) ∧ Q (rngD i (j - i).toNat) M1
theorem qi_range1 (hg : Gl X "range") (hm : X.mg "range" = none) (h : QA X [a] ws) (hs : starEach [a] X.env = [(false, eval a X.env)] := by rfl) : QI X tg (.Call (.Name "range" p) [a] [] pos) (iR1 ws) := by
  obtain ⟨ta, pa, da⟩ := h
  refine ⟨_, pi_range1 hg hm pa hs, fun env M Q hw S A σ H R st en k => ?_⟩
  refine da env M _ hw S A σ H _ st en fun vs H1 rs M1 A1 p1 s1 q1 ⟨j, e, ⟨h1, h2⟩, hq⟩ => ?_
  subst e
  obtain ⟨v, us, rfl, r1, r2⟩ := q1
  cases r1
  cases r2
  exact ⟨j, rfl, h1, h2, k _ H1 _ M1 A1 p1 s1 wlk_r hq⟩
theorem qi_range2 (hg : Gl X "range") (hm : X.mg "range" = none) (h : QA X [a, b] ws) (hs : starEach [a, b] X.env = [(false, eval a X.env), (false, eval b X.env)] := by rfl) (hs2 : starEach [b] X.env = [(false, eval b X.env)] := by rfl) : QI X tg (.Call (.Name "range" p) [a, b] [] pos) (iR2 ws) := by
  obtain ⟨ta, pa, da⟩ := h
  refine ⟨_, pi_range2 hg hm pa hs hs2, fun env M Q hw S A σ H R st en k => ?_⟩
  refine da env M _ hw S A σ H _ st en fun vs H1 rs M1 A1 p1 s1 q1 ⟨i, ei, j, ej, h1, hq⟩ => ?_
  have e : rs = [.d (.int i), .d (.int j)] := by rw [headTail ei, ej]
  subst e
  obtain ⟨v, us, rfl, r1, u, us2, rfl, r2, r3⟩ := q1
  cases r1
  cases r2
  cases r3
  exact ⟨i, j, rfl, h1, k _ H1 _ M1 A1 p1 s1 wlk_r hq⟩
/-- zip of two lists or two tuples -/
def zipD (as bs : List D) : List D := List.zipWith (fun x y => .tup [x, y]) as bs
def zipA : List Rv → Option (List D × List D)
  | [.d (.lst a), .d (.lst b)] => some (a, b)
  | [.d (.tup a), .d (.tup b)] => some (a, b)
  | _ => none
theorem zipA_is {rs : List Rv} {ab : List D × List D} (h : zipA rs = some ab) : rs = [.d (.lst ab.1), .d (.lst ab.2)] ∨ rs = [.d (.tup ab.1), .d (.tup ab.2)] := by
  unfold zipA at h
  split at h
  · cases h; exact .inl rfl
  · cases h; exact .inr rfl
  · cases h
def iZ (ws : WA) : WI := fun env M Q => ws env M fun rs M1 => ∃ ab, zipA rs = some ab ∧ Q (zipD ab.1 ab.2) M1
theorem rep_pair {S A : List Addr} {H : Hp} {x y : D} {v u : V} {T : Addr} (r1 : Rep K (view S A H) x v) (r2 : Rep K (view S A H) y u) (hT : H T = none) (tr : ∀ a ∈ S ++ A, ∃ o, H a = some o) : Rep K (view S A (upd H T (.tup [v, u]))) (.tup [x, y]) (.ref T) := by
  have sm := same_upd (o := .tup [v, u]) hT
  have nT : T ∉ S ++ A := fun z => by obtain ⟨o, e⟩ := tr T z; rw [hT] at e; cases e
  exact ⟨T, [v, u], rfl, .inl (.inl (off_of nT upd_same)), ⟨v, [u], rfl, Rep.mono (off_same sm) _ _ r1, u, [], rfl, Rep.mono (off_same sm) _ _ r2, rfl⟩⟩
theorem zipD_get {as bs : List D} {i : Nat} {d : D} (h : (zipD as bs)[i]? = some d) : ∃ x y, as[i]? = some x ∧ bs[i]? = some y ∧ d = .tup [x, y] := by
  unfold zipD at h
  rw [List.getElem?_zipWith] at h
  cases ha : as[i]? with
  | none => rw [ha] at h; cases h
  | some x =>
    cases hb : bs[i]? with
    | none => rw [ha, hb] at h; cases h
    | some y => rw [ha, hb] at h; cases h; exact ⟨x, y, rfl, rfl, rfl⟩
theorem qi_zip {elts : List Expr} {kk : Nat} {tpos : Pos} (hg : Gl X "zip") (hm : X.mg "zip" = none) (h : QA X [a, b] ws) (hs : starEach [a, b] X.env = (false, eval a X.env) :: starEach [b] X.env := by rfl) (hpl : (backTo pos (starEach [b] X.env)).any (·.1) = false := by rfl) : QI X (.Tuple elts kk tpos) (.Call (.Name "zip" p) [a, b] [] pos) (iZ ws) := by
  obtain ⟨ta, pa, da⟩ := h
  refine ⟨_, RZ.pi_zipA hg hm pa hs hpl, fun env M Q hw S A σ H R st en k => ?_⟩
  refine da env M _ hw S A σ H _ st en fun vs H1 rs M1 A1 p1 s1 q1 ⟨⟨as, bs⟩, e, hq⟩ => ?_
  rcases zipA_is e with e | e
  · subst e
    obtain ⟨v, us, rfl, ⟨p, xs, rfl, g1, g2⟩, u, us2, rfl, ⟨q, ys, rfl, g3, g4⟩, r3⟩ := q1
    cases r3
    refine ⟨p, q, xs, ys, rfl, .inl ⟨same_l off_sub g1, same_l off_sub g3, k _ H1 _ M1 A1 p1 s1 (fun S' A' H' sm tr => ?_) hq⟩⟩
    have h1 : SqL X.K H' p xs := same_l (sm.trans off_sub) g1
    have h3 : SqL X.K H' q ys := same_l (sm.trans off_sub) g3
    have h2 := Reps.mono sm _ _ g2
    have h4 := Reps.mono sm _ _ g4
    refine ⟨fun i d e => ?_, fun i hi => ⟨xs, ys, h1, h3, ?_⟩⟩
    · obtain ⟨x, y, ex, ey, rfl⟩ := zipD_get e
      obtain ⟨v, e1, e2⟩ := h2.get ex
      obtain ⟨u, e3, e4⟩ := h4.get ey
      refine ⟨⟨xs, ys, v, u, h1, h3, e1, e3⟩, fun w H2 yl => ?_⟩
      obtain ⟨T, x', y', rfl, hT, rfl, f1, f2⟩ := yl
      have := f1 xs h1
      rw [e1] at this
      cases this
      have := f2 ys h3
      rw [e3] at this
      cases this
      exact ⟨same_upd hT, rep_pair e2 e4 hT tr⟩
    · have := h2.len; have := h4.len
      unfold zipD at hi
      rw [List.length_zipWith] at hi
      omega
  · subst e
    obtain ⟨v, us, rfl, ⟨p, xs, rfl, g1, g2⟩, u, us2, rfl, ⟨q, ys, rfl, g3, g4⟩, r3⟩ := q1
    cases r3
    refine ⟨p, q, xs, ys, rfl, .inr ⟨same_t off_sub g1, same_t off_sub g3, k _ H1 _ M1 A1 p1 s1 (fun S' A' H' sm tr => ?_) hq⟩⟩
    have h1 : SqT X.K H' p xs := same_t (sm.trans off_sub) g1
    have h3 : SqT X.K H' q ys := same_t (sm.trans off_sub) g3
    have h2 := Reps.mono sm _ _ g2
    have h4 := Reps.mono sm _ _ g4
    refine ⟨fun i d e => ?_, fun i hi => ⟨xs, ys, h1, h3, ?_⟩⟩
    · obtain ⟨x, y, ex, ey, rfl⟩ := zipD_get e
      obtain ⟨v, e1, e2⟩ := h2.get ex
      obtain ⟨u, e3, e4⟩ := h4.get ey
      refine ⟨⟨xs, ys, v, u, h1, h3, e1, e3⟩, fun w H2 yl => ?_⟩
      obtain ⟨T, x', y', rfl, hT, rfl, f1, f2⟩ := yl
      have := f1 xs h1
      rw [e1] at this
      cases this
      have := f2 ys h3
      rw [e3] at this
      cases this
      exact ⟨same_upd hT, rep_pair e2 e4 hT tr⟩
    · have := h2.len; have := h4.len
      unfold zipD at hi
      rw [List.length_zipWith] at hi
      omega
/-- the signs of a text -/
def strD (x : Str) : List D := x.cps.toList.map fun c => .str ⟨#[c]⟩
def iS (we : WE) : WI := fun env M Q => we env M fun r M1 => ∃ x, r = .d (.str x) ∧ Q (strD x) M1
theorem qi_str (h : QE X e we) : QI X tg e (iS we) := by
  obtain ⟨te, pe, de⟩ := h
  refine ⟨_, pi_str pe, fun env M Q hw S A σ H R st en k => ?_⟩
  refine de env M _ hw S A σ H _ st en fun v H1 x M1 A1 p1 s1 q1 ⟨y, e, hq⟩ => ?_
  subst e
  cases q1
  refine ⟨y, rfl, k _ H1 _ M1 A1 p1 s1 (fun S' A' H' sm tr => ⟨fun i d e => ?_, fun i hi => ?_⟩) hq⟩
  · unfold strD at e
    rw [List.getElem?_map] at e
    cases z : y.cps.toList[i]? with
    | none => rw [z] at e; cases e
    | some c =>
      rw [z] at e
      cases e
      have z2 : y.cps[i]? = some c := by rw [← Array.getElem?_toList]; exact z
      refine ⟨(Array.getElem?_eq_some_iff.mp z2).1, fun x H2 yl => ?_⟩
      obtain ⟨rfl, c', e1, rfl⟩ := yl
      rw [z2] at e1
      cases e1
      exact ⟨Same.refl _, rfl⟩
  · show y.cps.size ≤ i
    unfold strD at hi
    simpa using hi
end

/-! ### comprehensions -/
def wLcL (wg : WG) (wt : WT) (we : WE) (env : Env') : List D → Mem → List D → (List D → Mem → Prop) → Prop
  | [], M, acc, Q => Q acc M
  | d :: ds, M, acc, Q => ∃ N : Mem → List D → Prop, (∀ m a, N m a → wLcL wg wt we env ds m a Q) ∧ wg (.d d) env M fun env1 M1 => wt env1 M1 fun b M2 => if b = true then we env1 M2 fun y M3 => ∃ z, y = .d z ∧ N M3 (acc ++ [z]) else N M2 acc
def wipeE (env : Env') : List Nat → Env'
  | [] => env
  | v :: vs => (wipeE env vs).set v none
def wLc (wi : WI) (wg : WG) (wt : WT) (we : WE) (vs : List Nat) : WE := fun env M Q => wi env M fun ds M1 => ds.length ≤ sizeLine ∧ wLcL wg wt we (wipeE env vs) ds M1 [] fun acc M2 => Q (.d (.lst acc)) M2
def wYes : WT := fun _ M Q => Q true M
section
variable {X : Cx} {K : PySem.W.Frag}
theorem EnvOk.wipe {S A : List Addr} {H : Hp} {env : Env'} {σ : L2.St} (h : EnvOk K S A H env σ) : ∀ vs : List Nat, EnvOk K S A H (wipeE env vs) (L2.wipe σ vs)
  | [] => h
  | v :: vs => by
    have ih := EnvOk.wipe h vs
    refine ⟨?_, fun i r e => ?_⟩
    · unfold wipeE L2.wipe
      rw [List.length_set, List.length_set]; exact ih.len
    · unfold wipeE at e
      unfold L2.wipe
      by_cases hi : v = i
      · subst hi
        rw [List.getElem?_set] at e
        simp only [if_true] at e
        split at e <;> cases e
      · rw [List.getElem?_set_ne hi] at e
        obtain ⟨w, e1, e2⟩ := ih.at_ i r e
        exact ⟨w, by rw [List.getElem?_set_ne hi]; exact e1, e2⟩
theorem dn_lc {ti : TI} {g : TG} {tt : TT} {te : TE} {wi : WI} {wg : WG} {wt : WT} {we : WE} {vs ss : List Nat} (hi : DnI K ti wi) (hg : DnG K ss g wg) (ht : DnT K tt wt) (he : Dn K te we) (hs : ∀ i ∈ ss, i ∈ vs) : Dn K (tLc ti g tt te vs) (wLc wi wg wt we vs) := by
  intro env M Q hw S A σ H R st en k
  refine hi env M _ hw S A σ H _ st en fun J H1 ds M1 A1 p1 s1 wk ⟨hz, hw1⟩ => ?_
  intro D0 hD
  have fr := s1.fresh hD
  have nS : D0 ∉ S := fun z => fr (List.mem_append_left _ z)
  have nA : D0 ∉ A1 := fun z => fr (List.mem_append_right _ z)
  have sub : ∀ (A : List Addr) (H : Hp), Same (view (D0 :: S) A H) (view S A H) := fun A H => off_less fun a ha => List.mem_cons_of_mem _ ha
  have v0 : Same (view S A1 H1) (view (D0 :: S) A1 (upd H1 D0 (.lst []))) := fun b x e => by
    obtain ⟨n, q⟩ := off_some e
    have hb : b ≠ D0 := ne_of_none q hD
    refine off_of (fun z => ?_) (by rw [upd_ne hb]; exact q)
    rcases List.mem_cons.mp z with z | z
    · exact hb z
    · exact n z
  have st0 : Sto K (D0 :: S) A1 (upd H1 D0 (.lst [])) M1 := by
    refine ⟨s1.len, s1.nd, fun a ha z => ?_, fun a ha => ?_, fun i mo a h1 h2 => ?_⟩
    · rcases List.mem_cons.mp z with z | z
      · exact nA (z ▸ ha)
      · exact s1.dj a ha z
    · rcases List.mem_cons.mp ha with rfl | ha
      · exact ⟨_, upd_same⟩
      · obtain ⟨o, e⟩ := s1.trk a ha
        exact ⟨o, by rw [upd_ne (ne_of_none e hD)]; exact e⟩
    · refine (s1.mem i mo a h1 h2).to (upd_ne (fun (z : a = D0) => nA (by rw [← z]; exact List.mem_of_getElem? h2))) v0
  refine ⟨fun i m H2 => m = ds.length - i ∧ i ≤ ds.length ∧ ∃ M2 A2 acc xs, A1 <+: A2 ∧ Same (view S A1 H1) (view (D0 :: S) A2 H2) ∧ (∀ a ∈ S, H2 a = H1 a) ∧ Sto K (D0 :: S) A2 H2 M2 ∧ H2 D0 = some (.lst xs) ∧ Reps K (view (D0 :: S) A2 H2) acc xs ∧ acc.length ≤ i ∧
      wLcL wg wt we (wipeE env vs) (ds.drop i) M2 acc (fun acc M2 => Q (.d (.lst acc)) M2), ⟨ds.length, by simp, Nat.zero_le _, M1, A1, [], [], List.prefix_refl _, v0, fun a ha => upd_ne (fun (z : a = D0) => nS (by rw [← z]; exact ha)), st0, upd_same, rfl, by simp, by simpa using hw1⟩, ?_⟩
  rintro i m H2 ⟨rfl, hil, M2, A2, acc, xs, pre, vw, hid, st2, hD2, rp, hal, hw2⟩
  obtain ⟨wk1, wk2⟩ := wk (D0 :: S) A2 H2 vw st2.trk'
  by_cases hlt : i < ds.length
  · have hd : ds[i]? = some ds[i] := List.getElem?_eq_getElem hlt
    obtain ⟨go, yl⟩ := wk1 i _ hd
    refine .inr ⟨go, fun H' => i + 1 ≤ ds.length ∧ ∃ M2 A2 acc xs, A1 <+: A2 ∧ Same (view S A1 H1) (view (D0 :: S) A2 H') ∧ (∀ a ∈ S, H' a = H1 a) ∧ Sto K (D0 :: S) A2 H' M2 ∧ H' D0 = some (.lst xs) ∧ Reps K (view (D0 :: S) A2 H') acc xs ∧ acc.length ≤ i + 1 ∧
      wLcL wg wt we (wipeE env vs) (ds.drop (i + 1)) M2 acc (fun acc M2 => Q (.d (.lst acc)) M2), fun H' q => ⟨ds.length - (i + 1), by omega, rfl, q⟩, fun x H3 yd => ?_⟩
    obtain ⟨sm, rx⟩ := yl x H3 yd
    have st3 := st2.grow sm
    have p3 := st2.post sm
    rw [List.drop_eq_getElem_cons hlt] at hw2
    obtain ⟨N, hN, hw2⟩ := hw2
    have en3 : EnvOk K (D0 :: S) A2 H3 (wipeE env vs) (wipe σ vs) := ((en.mono p1).wipe vs).to pre (vw.trans p3.view)
    refine hg _ _ _ _ hw2 (D0 :: S) A2 (wipe σ vs) H3 x _ st3 en3 rx fun σ4 H4 env4 M4 A4 p4 s4 e4 wp hw4 => ?_
    have wp' : wipe σ4 vs = wipe σ vs := by
      rw [wp vs hs]
      have : ∀ ws us : List Nat, (∀ i ∈ us, i ∈ ws) → wipe (wipe σ us) ws = wipe σ ws := by
        intro ws us
        induction us with
        | nil => intro _; rfl
        | cons u us ih =>
          intro hu
          show wipe ((wipe σ us).set u none) ws = _
          rw [wipe_set (hu u List.mem_cons_self)]
          exact ih fun i hi => hu i (List.mem_cons_of_mem _ hi)
      exact this vs vs fun i hi => hi
    refine ⟨wp', ?_⟩
    refine ht _ _ _ hw4 (D0 :: S) A4 σ4 H4 _ s4 e4 fun b H5 M5 A5 p5 s5 hw5 => ?_
    have pp := (p3.trans p4).trans p5
    have hid5 : ∀ a ∈ S, H5 a = H1 a := fun a ha => (pp.hid a (List.mem_cons_of_mem _ ha)).trans (hid a ha)
    have hD5 : H5 D0 = some (.lst xs) := (pp.hid D0 List.mem_cons_self).trans hD2
    cases b with
    | false =>
      exact ⟨hlt, M5, A5, acc, xs, pre.trans pp.pre, vw.trans pp.view, hid5, s5, hD5, Reps.mono pp.view _ _ rp, by omega, hN _ _ hw5⟩
    | true =>
      refine he _ _ _ hw5 (D0 :: S) A5 σ4 H5 _ s5 (e4.mono p5) fun y H6 ry M6 A6 p6 s6 q6 ⟨z, ez, hw6⟩ => ?_
      subst ez
      have pp6 := pp.trans p6
      have hD6 : H6 D0 = some (.lst xs) := (p6.hid D0 List.mem_cons_self).trans hD5
      have rp6 : Reps K (view (D0 :: S) A6 H6) acc xs := Reps.mono pp6.view _ _ rp
      refine ⟨xs, hD6, by rw [rp6.len]; omega, hlt, ?_⟩
      have vset : view (D0 :: S) A6 (upd H6 D0 (.lst (xs ++ [y]))) = view (D0 :: S) A6 H6 := by
        funext b
        unfold view off
        by_cases e : b ∈ D0 :: S ++ A6
        · rw [if_pos e, if_pos e]
        · rw [if_neg e, if_neg e, upd_ne (fun z => e (by rw [z]; exact List.mem_cons_self))]
      have nA6 : D0 ∉ A6 := fun z => s6.dj D0 z List.mem_cons_self
      refine ⟨M6, A6, acc ++ [z], xs ++ [y], pre.trans pp6.pre, by rw [vset]; exact vw.trans pp6.view, fun a ha => ?_, ?_, upd_same, ?_, by rw [List.length_append]; simp; omega, hN _ _ hw6⟩
      · rw [upd_ne (fun (z : a = D0) => nS (by rw [← z]; exact ha))]
        exact (p6.hid a (List.mem_cons_of_mem _ ha)).trans (hid5 a ha)
      · refine ⟨s6.len, s6.nd, s6.dj, fun a ha => ?_, fun j mo a h1 h2 => ?_⟩
        · by_cases e : a = D0
          · subst e; exact ⟨_, upd_same⟩
          · rw [upd_ne e]; exact s6.trk a ha
        · exact (s6.mem j mo a h1 h2).to (upd_ne (fun (z : a = D0) => nA6 (by rw [← z]; exact List.mem_of_getElem? h2))) (by rw [vset]; exact Same.refl _)
      · rw [vset]
        exact Reps.app rp6 (Reps.one q6)
  · have e : i = ds.length := by omega
    subst e
    refine .inl ⟨wk2 _ (Nat.le_refl _), ?_⟩
    rw [List.drop_length] at hw2
    have nA2 : D0 ∉ A2 := fun z => st2.dj D0 z List.mem_cons_self
    have sb := sub A2 H2
    refine k (.ref D0) H2 (.d (.lst acc)) M2 A2 (p1.trans ⟨pre, vw.trans sb, hid⟩) ⟨st2.len, st2.nd, fun a ha z => st2.dj a ha (List.mem_cons_of_mem _ z), fun a ha => st2.trk a (List.mem_cons_of_mem _ ha), fun j mo a h1 h2 => (st2.mem j mo a h1 h2).to rfl sb⟩ ?_ hw2
    exact ⟨D0, xs, rfl, .inl (.inl (off_of (fun z => (List.mem_append.mp z).elim nS nA2) hD2)), Reps.mono sb _ _ rp⟩
end
end Dw
set_option Elab.async false
set_option linter.all false
set_option maxRecDepth 100000
set_option maxHeartbeats 4000000
/-! Dw7: statements and loops. -/
namespace Dw
open PySem PySem.Spec PyProof.Rows L2
structure EndsD where
  nx : Env' → Mem → Prop
  rt : Rv → Mem → Prop
  bk : Env' → Mem → Prop
  ct : Env' → Mem → Prop
abbrev WS := EndsD → Env' → Mem → Prop
/-- behind a statement: the view has grown, the hidden stays, the first P of what may change are the same -/
structure PostS (S P A : List Addr) (H : Hp) (A' : List Addr) (H' : Hp) : Prop where
  pre : P <+: A'
  view : Same (view S A H) (view S A' H')
  hid : ∀ a ∈ S, H' a = H a
structure EndsOk (K : PySem.W.Frag) (S P A : List Addr) (H : Hp) (E : EndsD) (D : Ends) : Prop where
  nx : ∀ (σ' : L2.St) (H' : Hp) (env' : Env') (M' : Mem) (A' : List Addr), PostS S P A H A' H' → Sto K S A' H' M' → EnvOk K S A' H' env' σ' → E.nx env' M' → D.nx σ' H'
  rt : ∀ (v : V) (H' : Hp) (r : Rv) (M' : Mem) (A' : List Addr), PostS S P A H A' H' → Sto K S A' H' M' → RepV K S A' H' r v → E.rt r M' → D.rt v H'
  bk : ∀ (σ' : L2.St) (H' : Hp) (env' : Env') (M' : Mem) (A' : List Addr), PostS S P A H A' H' → Sto K S A' H' M' → EnvOk K S A' H' env' σ' → E.bk env' M' → D.bk σ' H'
  ct : ∀ (σ' : L2.St) (H' : Hp) (env' : Env') (M' : Mem) (A' : List Addr), PostS S P A H A' H' → Sto K S A' H' M' → EnvOk K S A' H' env' σ' → E.ct env' M' → D.ct σ' H'
def DnS (K : PySem.W.Frag) (n0 : Nat) (ts : TS) (ws : WS) : Prop := ∀ E env M, ws E env M → ∀ (S P A : List Addr) (σ : L2.St) (H : Hp) (D : Ends), P.length = n0 → P <+: A → Sto K S A H M → EnvOk K S A H env σ → EndsOk K S P A H E D → ts D σ H
def QS (X : Cx) (n0 : Nat) (st : Stmt) (ws : WS) : Prop := ∃ ts, PS X st ts ∧ DnS X.K n0 ts ws
def QSs (X : Cx) (n0 : Nat) (st : List Stmt) (ws : WS) : Prop := ∃ ts, PSs X st ts ∧ DnS X.K n0 ts ws
section
variable {K : PySem.W.Frag} {S P A A' A2 : List Addr} {H H' H2 : Hp} {E : EndsD} {D : Ends}
theorem Post.s (h : Post S A H A' H') (p : P <+: A) : PostS S P A H A' H' := ⟨p.trans h.pre, h.view, h.hid⟩
theorem PostS.trans (a : PostS S P A H A' H') (b : PostS S P A' H' A2 H2) : PostS S P A H A2 H2 := ⟨b.pre, a.view.trans b.view, fun x hx => (b.hid x hx).trans (a.hid x hx)⟩
theorem EndsOk.on (h : EndsOk K S P A H E D) (p : PostS S P A H A' H') : EndsOk K S P A' H' E D :=
  ⟨fun σ' H' env' M' A' q => h.nx σ' H' env' M' A' (p.trans q), fun v H' r M' A' q => h.rt v H' r M' A' (p.trans q), fun σ' H' env' M' A' q => h.bk σ' H' env' M' A' (p.trans q), fun σ' H' env' M' A' q => h.ct σ' H' env' M' A' (p.trans q)⟩
end
section
variable {X : Cx} {K : PySem.W.Frag} {n0 : Nat} {st : Stmt} {rest body : List Stmt} {e a b c : Expr} {we wa wb : WE} {wt : WT} {ws w1 w2 : WS} {wai : WA} {pos : Pos}
def sNil : WS := fun E env M => E.nx env M
def sSeq (a b : WS) : WS := fun E env M => a { E with nx := b E } env M
theorem qss_nil : QSs X n0 [] sNil := ⟨_, pss_nil, fun E env M hw S P A σ H D hn hp st en eo => eo.nx σ H env M A ⟨hp, Same.refl _, fun _ _ => rfl⟩ st en hw⟩
theorem dns_seq {t u : TS} (h : DnS K n0 t w1) (g : DnS K n0 u w2) : DnS K n0 (tSeq t u) (sSeq w1 w2) := by
  intro E env M hw S P A σ H D hn hp st en eo
  refine h _ env M hw S P A σ H _ hn hp st en ⟨fun σ' H' env' M' A' p s e q => ?_, eo.rt, eo.bk, eo.ct⟩
  exact g E env' M' q S P A' σ' H' D hn p.pre s e (eo.on p)
theorem qss_cons (h : QS X n0 st w1) (g : QSs X n0 rest w2) : QSs X n0 (st :: rest) (sSeq w1 w2) := by
  obtain ⟨t, p, d⟩ := h
  obtain ⟨u, q, f⟩ := g
  exact ⟨_, pss_cons p q, dns_seq d f⟩
theorem qss_one (h : QS X n0 st ws) : QSs X n0 [st] ws := by
  obtain ⟨t, p, d⟩ := h
  exact ⟨_, pss_one p, d⟩
theorem qs_pass : QS X n0 (.Pass pos) sNil := ⟨_, ps_pass, fun E env M hw S P A σ H D hn hp st en eo => eo.nx σ H env M A ⟨hp, Same.refl _, fun _ _ => rfl⟩ st en hw⟩
def sBreak : WS := fun E env M => E.bk env M
def sCont : WS := fun E env M => E.ct env M
theorem qs_break : QS X n0 (.Break pos) sBreak := ⟨_, ps_break, fun E env M hw S P A σ H D hn hp st en eo => eo.bk σ H env M A ⟨hp, Same.refl _, fun _ _ => rfl⟩ st en hw⟩
theorem qs_cont : QS X n0 (.Continue pos) sCont := ⟨_, ps_continue, fun E env M hw S P A σ H D hn hp st en eo => eo.ct σ H env M A ⟨hp, Same.refl _, fun _ _ => rfl⟩ st en hw⟩
def sRet (we : WE) : WS := fun E env M => we env M E.rt
theorem qs_ret (h : QE X e we) : QS X n0 (.Return (some e) pos) (sRet we) := by
  obtain ⟨te, pe, de⟩ := h
  refine ⟨_, ps_ret pe, fun E env M hw S P A σ H D hn hp st en eo => ?_⟩
  exact de env M _ hw S A σ H _ st en fun v H1 r M1 A1 p1 s1 q1 hq => eo.rt v H1 r M1 A1 (p1.s hp) s1 q1 hq
def sRetN : WS := fun E _ M => E.rt (.d .non) M
theorem qs_retN : QS X n0 (.Return none pos) sRetN := ⟨_, ps_retN, fun E env M hw S P A σ H D hn hp st en eo => eo.rt .non H (.d .non) M A ⟨hp, Same.refl _, fun _ _ => rfl⟩ st (show V.non = V.non from rfl) hw⟩
def sExpr (we : WE) : WS := fun E env M => we env M fun _ M1 => E.nx env M1
theorem qs_expr (h : QE X e we) (hs : swapsWith e none pos.line X.env = pure false := by rfl) : QS X n0 (.Expr e pos) (sExpr we) := by
  obtain ⟨te, pe, de⟩ := h
  refine ⟨_, ps_expr pe hs, fun E env M hw S P A σ H D hn hp st en eo => ?_⟩
  exact de env M _ hw S A σ H _ st en fun v H1 r M1 A1 p1 s1 q1 hq => eo.nx σ H1 env M1 A1 (p1.s hp) s1 (en.mono p1) hq
def sIf (wt : WT) (a b : WS) : WS := fun E env M => wt env M fun c M1 => if c = true then a E env M1 else b E env M1
theorem qs_if {sa sb : List Stmt} (h : QT X c wt) (ha : QSs X n0 sa w1) (hb : QSs X n0 sb w2) : QS X n0 (.If c sa sb pos) (sIf wt w1 w2) := by
  obtain ⟨tt, pt, dt⟩ := h
  obtain ⟨ta, pa, da⟩ := ha
  obtain ⟨tb, pb, db⟩ := hb
  refine ⟨_, ps_if pt pa pb, fun E env M hw S P A σ H D hn hp st en eo => ?_⟩
  refine dt env M _ hw S A σ H _ st en fun c H1 M1 A1 p1 s1 hq => ?_
  have eo1 := eo.on (p1.s hp)
  cases c with
  | true => exact da E env M1 hq S P A1 σ H1 D hn (hp.trans p1.pre) s1 (en.mono p1) eo1
  | false => exact db E env M1 hq S P A1 σ H1 D hn (hp.trans p1.pre) s1 (en.mono p1) eo1
/-- x = e -/
def sSet (i : Nat) (we : WE) : WS := fun E env M => we env M fun r M1 => E.nx (env.set i (some r)) M1
theorem dns_set {i : Nat} {te : TE} (de : Dn K te we) : DnS K n0 (tAsg te (gName i)) (sSet i we) := by
  intro E env M hw S P A σ H D hn hp st en eo
  exact de env M _ hw S A σ H _ st en fun v H1 r M1 A1 p1 s1 q1 hq => eo.nx _ H1 _ M1 A1 (p1.s hp) s1 ((en.mono p1).set q1) hq
theorem qs_set {i : Nat} {x : Str} {pos' : Pos} (hN : X.N.Nodup) (hi : X.N[i]? = some x) (hx : Loc X.env.scope x) (h : QE X e we) (hs : swapsWith e (some (.Name x pos')) pos.line X.env = pure false := by rfl) (hf : X.fn x = true ∨ X.env.scope.names.lookup x = some .local := by first | exact .inl rfl | exact .inr rfl | assumption) :
    QS X n0 (.Assign [.Name x pos'] e pos) (sSet i we) := by
  obtain ⟨te, pe, de⟩ := h
  exact ⟨_, ps_set hN hi hx pe hs hf, dns_set de⟩
/-- target = e -/
def sAsg (we : WE) (wg : WG) : WS := fun E env M => we env M fun r M1 => wg r env M1 E.nx
theorem qs_asg {tg : Expr} {ss : List Nat} {wg : WG} (h : QE X e we) (g : QG X ss tg wg) (hs : swapsWithSole [tg] e pos.line X.env = pure false := by rfl) (hw : swappedStores [tg] e X.env = pure none := by rfl)
    (h1 : (assignEach [tg] X.env).map (·.2) = [assign tg X.env] := by rfl) : QS X n0 (.Assign [tg] e pos) (sAsg we wg) := by
  obtain ⟨te, pe, de⟩ := h
  obtain ⟨tg', pg, dg⟩ := g
  refine ⟨_, ps_asg pe pg hs hw h1, fun E env M hw S P A σ H D hn hp st en eo => ?_⟩
  refine de env M _ hw S A σ H _ st en fun v H1 r M1 A1 p1 s1 q1 hq => ?_
  exact dg r env M1 _ hq S A1 σ H1 v _ s1 (en.mono p1) q1 fun σ2 H2 env2 M2 A2 p2 s2 e2 _ hq2 => eo.nx σ2 H2 env2 M2 A2 ((p1.trans p2).s hp) s2 e2 hq2
/-- a, b = e1, e2: local names -/
def sPar (i j : Nat) (ws : WA) : WS := fun E env M => ws env M fun rs M1 => ∃ r, rs.head? = some r ∧ ∃ s, rs.tail = [s] ∧ E.nx ((env.set i (some r)).set j (some s)) M1
theorem qs_par {i j : Nat} {x y : Str} {px py pt : Pos} {kt k2 : Nat} {pt2 : Pos} (hc : X.calm = true) (hN : X.N.Nodup) (hi : X.N[i]? = some x) (hj : X.N[j]? = some y) (hij : i ≠ j)
    (hx : X.env.scope.names.lookup x = some .local) (hy : X.env.scope.names.lookup y = some .local) (h : QA X [a, b] wai)
    (hw : swappedStores [.Tuple [.Name x px, .Name y py] kt pt] (.Tuple [a, b] k2 pt2) X.env = pure (some [x, y]))
    (hs : swapsWithSole [.Tuple [.Name x px, .Name y py] kt pt] (.Tuple [a, b] k2 pt2) pos.line X.env = pure false := by rfl) :
    QS X n0 (.Assign [.Tuple [.Name x px, .Name y py] kt pt] (.Tuple [a, b] k2 pt2) pos) (sPar i j wai) := by
  obtain ⟨ta, pa, da⟩ := h
  refine ⟨_, ps_par hc hN hi hj hij hx hy pa hw hs, fun E env M hw S P A σ H D hn hp st en eo => ?_⟩
  refine da env M _ hw S A σ H _ st en fun vs H1 rs M1 A1 p1 s1 q1 ⟨r, er, s, es', hq⟩ => ?_
  have e : rs = [r, s] := by rw [headTail er, es']
  subst e
  obtain ⟨v, us, rfl, q2, u, us2, rfl, q3, q4⟩ := q1
  cases q4
  exact ⟨v, u, rfl, eo.nx _ H1 _ M1 A1 (p1.s hp) s1 (((en.mono p1).set q2).set q3) hq⟩
def sPar3 (i j l : Nat) (ws : WA) : WS := fun E env M => ws env M fun rs M1 => ∃ r, rs.head? = some r ∧ ∃ s t, rs.tail = [s, t] ∧ E.nx (((env.set i (some r)).set j (some s)).set l (some t)) M1
theorem qs_par3 {i j l : Nat} {x y z : Str} {c : Expr} {px py pz pt : Pos} {kt k2 : Nat} {pt2 : Pos} (hc : X.calm = true) (hN : X.N.Nodup) (hi : X.N[i]? = some x) (hj : X.N[j]? = some y) (hl : X.N[l]? = some z) (hij : i ≠ j) (hil : i ≠ l) (hjl : j ≠ l)
    (hx : X.env.scope.names.lookup x = some .local) (hy : X.env.scope.names.lookup y = some .local) (hz : X.env.scope.names.lookup z = some .local) (h : QA X [a, b, c] wai)
    (hw : swappedStores [.Tuple [.Name x px, .Name y py, .Name z pz] kt pt] (.Tuple [a, b, c] k2 pt2) X.env = pure (some [x, y, z]))
    (hs : swapsWithSole [.Tuple [.Name x px, .Name y py, .Name z pz] kt pt] (.Tuple [a, b, c] k2 pt2) pos.line X.env = pure false := by rfl) :
    QS X n0 (.Assign [.Tuple [.Name x px, .Name y py, .Name z pz] kt pt] (.Tuple [a, b, c] k2 pt2) pos) (sPar3 i j l wai) := by
  obtain ⟨ta, pa, da⟩ := h
  refine ⟨_, ps_par3 hc hN hi hj hl hij hil hjl hx hy hz pa hw hs, fun E env M hw S P A σ H D hn hp st en eo => ?_⟩
  refine da env M _ hw S A σ H _ st en fun vs H1 rs M1 A1 p1 s1 q1 ⟨r, er, s, t, es', hq⟩ => ?_
  have e : rs = [r, s, t] := by rw [headTail er, es']
  subst e
  obtain ⟨v, us, rfl, q2, u, us2, rfl, q3, z, us3, rfl, q4, q5⟩ := q1
  cases q5
  exact ⟨v, u, z, rfl, eo.nx _ H1 _ M1 A1 (p1.s hp) s1 ((((en.mono p1).set q2).set q3).set q4) hq⟩
/-- xs[i] = e: the list that may change -/
def sSetIx (wo wi we : WE) : WS := fun E env M => we env M fun r M1 => wo env M1 fun o M2 => wi env M2 fun ix M3 => ∃ d, r = .d d ∧ ∃ k, o = .o k ∧ ∃ ds, M3[k]? = some (.lst ds) ∧ ∃ i, ix = .d (.int i) ∧ ∃ j, ixN ds.length i = some j ∧ E.nx env (M3.set k (.lst (ds.set j d)))
theorem qs_setIx {o i : Expr} {wo wi : WE} {pos' : Pos} (he : QE X e we) (ho : QE X o wo) (hi : QE X i wi) (hsub : ∀ v, assign (.Subscript o i pos') X.env v = (do
      let ov ← holding [v] (eval o X.env)
      let iv ← holding [v, ov] (eval i X.env)
      standAt pos'
      holding [v, ov, iv] (setItem ov iv v)
      release [v, ov, iv] []) := by intro _; rfl) (hs : swapsWithSole [.Subscript o i pos'] e pos.line X.env = pure false := by rfl) (hw : swappedStores [.Subscript o i pos'] e X.env = pure none := by rfl)
    (h1 : (assignEach [.Subscript o i pos'] X.env).map (·.2) = [assign (.Subscript o i pos') X.env] := by rfl) : QS X n0 (.Assign [.Subscript o i pos'] e pos) (sSetIx wo wi we) := by
  obtain ⟨te, pe, de⟩ := he
  obtain ⟨to, po, do_⟩ := ho
  obtain ⟨ti, pi, di⟩ := hi
  refine ⟨_, ps_asg pe (pg_sub po pi set_list hsub) hs hw h1, fun E env M hw S P A σ H D hn hp st en eo => ?_⟩
  refine de env M _ hw S A σ H _ st en fun v H1 r M1 A1 p1 s1 q1 hw1 => ?_
  refine do_ env M1 _ hw1 S A1 σ H1 _ s1 (en.mono p1) fun v2 H2 o2 M2 A2 p2 s2 q2 hw2 => ?_
  refine di env M2 _ hw2 S A2 σ H2 _ s2 (en.mono (p1.trans p2)) fun v3 H3 i3 M3 A3 p3 s3 q3 ⟨d, e1, k, e2, ds, e3, i, e4, j, e5, hq⟩ => ?_
  subst e1 e2 e4
  obtain ⟨a, ha, rfl⟩ := q2.mono p3
  cases q3
  obtain ⟨vs, g1, g2⟩ := s3.mem k _ a e3 ha
  have rd : Rep X.K (view S A3 H3) d v := (q1.mono (p2.trans p3))
  refine ⟨a, vs, i, j, rfl, rfl, g1, by rw [g2.len]; exact e5, ?_⟩
  obtain ⟨s4, p4⟩ := s3.set (o := .lst (vs.set j v)) (mo := .lst (ds.set j d)) ha ⟨vs.set j v, upd_same, by rw [view_set (List.mem_of_getElem? ha)]; exact Reps.set rd j g2⟩
  have pp := ((p1.trans p2).trans p3).trans p4
  exact eo.nx σ _ env _ A3 (pp.s hp) s4 (en.mono pp) hq
end
end Dw
set_option Elab.async false
set_option linter.all false
set_option maxRecDepth 100000
set_option maxHeartbeats 4000000
/-! Dw8: loops, lists that change, defs and their calls. -/
namespace Dw
open PySem PySem.Spec PyProof.Rows L2
/-! ### less room -/
def cut1 (n : Nat) : Option Rv → Option Rv
  | some (.o k) => if k < n then some (.o k) else none
  | x => x
def cutE (n : Nat) (env : Env') : Env' := env.map (cut1 n)
theorem cut1_d {n : Nat} {x : D} : cut1 n (some (.d x)) = some (.d x) := rfl
theorem cut1_n {n : Nat} : cut1 n none = none := rfl
theorem cut1_o {n k : Nat} (h : k < n) : cut1 n (some (.o k)) = some (.o k) := if_pos h
theorem cut1_o0 {n : Nat} : cut1 (n + 1) (some (.o 0)) = some (.o 0) := cut1_o (by omega)
theorem cut1_o1 {n : Nat} : cut1 (n + 2) (some (.o 1)) = some (.o 1) := cut1_o (by omega)
section
variable {K : PySem.W.Frag} {S P A A' : List Addr} {H H' : Hp} {M M' : Mem} {env : Env'} {σ : L2.St}
theorem view_take (n : Nat) : Same (view S A H) (view S (A.take n) H) := off_less fun a ha => by
  rcases List.mem_append.mp ha with h | h
  · exact List.mem_append_left _ h
  · exact List.mem_append_right _ (List.mem_of_mem_take h)
theorem Sto.take (s : Sto K S A H M) (n : Nat) : Sto K S (A.take n) H (M.take n) := by
  refine ⟨by simp [s.len], s.nd.sublist (List.take_sublist _ _), fun a ha => s.dj a (List.mem_of_mem_take ha), s.trk, fun k mo a h1 h2 => ?_⟩
  rw [List.getElem?_take] at h1 h2
  split at h1
  · rename_i hk
    rw [if_pos hk] at h2
    exact (s.mem k mo a h1 h2).to rfl (view_take n)
  · cases h1
theorem EnvOk.cut (e : EnvOk K S A H env σ) (n : Nat) : EnvOk K S (A.take n) H (cutE n env) σ := by
  refine ⟨by rw [e.len]; simp [cutE], fun i r h => ?_⟩
  unfold cutE at h
  rw [List.getElem?_map] at h
  cases z : env[i]? with
  | none => rw [z] at h; cases h
  | some y =>
    rw [z] at h
    cases y with
    | none => simp [cut1] at h
    | some r0 =>
      cases r0 with
      | d x =>
        simp [cut1] at h
        subst h
        obtain ⟨v, e1, e2⟩ := e.at_ i _ z
        exact ⟨v, e1, Rep.mono (view_take n) _ _ e2⟩
      | o k =>
        simp [cut1] at h
        obtain ⟨hk, rfl⟩ := h
        obtain ⟨v, e1, a, e2, e3⟩ := e.at_ i _ z
        exact ⟨v, e1, a, by rw [List.getElem?_take, if_pos hk]; exact e2, e3⟩
theorem prefix_take {n : Nat} (h : P <+: A) (hn : P.length ≤ n) : P <+: A.take n := by
  obtain ⟨t, rfl⟩ := h
  rw [List.take_append, List.take_of_length_le hn]
  exact List.prefix_append _ _
theorem PostS.take (p : PostS S P A H A' H') {n : Nat} (hn : P.length ≤ n) : PostS S P A H (A'.take n) H' := ⟨prefix_take p.pre hn, p.view.trans (view_take n), p.hid⟩
end
/-! ### for -/
def wForL (wg : WG) (wb : WS) (n : Nat) : List D → WS
  | [], E, env, M => E.nx env M
  | d :: ds, E, env, M => ∃ N : Env' → Mem → Prop, (∀ e m, N e m → wForL wg wb n ds E e m) ∧ wg (.d d) env M fun env1 M1 => wb ⟨fun e m => N (cutE n e) (m.take n), E.rt, E.nx, fun e m => N (cutE n e) (m.take n)⟩ env1 M1
def sFor (wi : WI) (wg : WG) (wb : WS) : WS := fun E env M => wi env M fun ds M1 => wForL wg wb M1.length ds E env M1
def wWhileN (wt : WT) (wb : WS) (n : Nat) : Nat → WS
  | 0, _, _, _ => False
  | k + 1, E, env, M => ∃ N : Env' → Mem → Prop, (∀ e m, N e m → wWhileN wt wb n k E e m) ∧ wt env M fun b M1 => if b = true then wb ⟨fun e m => N (cutE n e) (m.take n), E.rt, E.nx, fun e m => N (cutE n e) (m.take n)⟩ env M1 else E.nx env M1
def sWhile (wt : WT) (wb : WS) : WS := fun E env M => ∃ k, wWhileN wt wb M.length k E env M
section
variable {X : Cx} {K : PySem.W.Frag} {n0 : Nat} {st : Stmt} {rest body : List Stmt} {e a b c tg iter : Expr} {we wa wb : WE} {wt : WT} {ws w1 w2 : WS} {wai : WA} {pos : Pos} {wi : WI} {wg : WG} {ss : List Nat}
theorem dns_for {ti : TI} {g : TG} {tb : TS} (hi : DnI K ti wi) (hg : DnG K ss g wg) (hb : DnS K n0 tb ws) : DnS K n0 (tFor ti g tb) (sFor wi wg ws) := by
  intro E env M hw S P A σ H D hn hp st en eo
  refine hi env M _ hw S A σ H _ st en fun J H1 ds M1 A1 p1 s1 wk hw1 => ?_
  have hP : P.length ≤ M1.length := by rw [← s1.len]; exact (hp.trans p1.pre).length_le
  refine ⟨fun i m σ2 H2 => m = ds.length - i ∧ i ≤ ds.length ∧ ∃ env2 M2 A2, PostS S P A1 H1 A2 H2 ∧ Sto K S A2 H2 M2 ∧ EnvOk K S A2 H2 env2 σ2 ∧ wForL wg ws M1.length (ds.drop i) E env2 M2,
    ⟨ds.length, by simp, Nat.zero_le _, env, M1, A1, ⟨hp.trans p1.pre, Same.refl _, fun _ _ => rfl⟩, s1, en.mono p1, by simpa using hw1⟩, ?_⟩
  rintro i m σ2 H2 ⟨rfl, hil, env2, M2, A2, p2, s2, e2, hw2⟩
  obtain ⟨wk1, wk2⟩ := wk S A2 H2 p2.view s2.trk'
  have pp : PostS S P A H A2 H2 := (p1.s hp).trans p2
  by_cases hlt : i < ds.length
  · have hd : ds[i]? = some ds[i] := List.getElem?_eq_getElem hlt
    obtain ⟨go, yl⟩ := wk1 i _ hd
    refine .inr ⟨go, fun σ' H' => i + 1 ≤ ds.length ∧ ∃ env2 M2 A2, PostS S P A1 H1 A2 H' ∧ Sto K S A2 H' M2 ∧ EnvOk K S A2 H' env2 σ' ∧ wForL wg ws M1.length (ds.drop (i + 1)) E env2 M2, fun σ' H' q => ⟨ds.length - (i + 1), by omega, rfl, q⟩, fun x H3 yd => ?_⟩
    obtain ⟨sm, rx⟩ := yl x H3 yd
    have s3 := s2.grow sm
    have p3 := s2.post sm
    rw [List.drop_eq_getElem_cons hlt] at hw2
    obtain ⟨N, hN, hw2⟩ := hw2
    refine hg _ _ _ _ hw2 S A2 σ2 H3 x _ s3 (e2.mono p3) rx fun σ4 H4 env4 M4 A4 p4 s4 e4 _ hw4 => ?_
    have p24 : PostS S P A1 H1 A4 H4 := p2.trans ((p3.trans p4).s p2.pre)
    refine hb _ env4 M4 hw4 S P A4 σ4 H4 _ hn p24.pre s4 e4 ⟨fun σ5 H5 env5 M5 A5 p5 s5 e5 q5 => ?_, fun v H5 r M5 A5 p5 s5 e5 q5 => ?_, fun σ5 H5 env5 M5 A5 p5 s5 e5 q5 => ?_, fun σ5 H5 env5 M5 A5 p5 s5 e5 q5 => ?_⟩
    · exact ⟨hlt, _, _, A5.take M1.length, (p24.trans p5).take hP, s5.take _, e5.cut _, hN _ _ q5⟩
    · exact eo.rt v H5 r M5 A5 ((p1.s hp).trans (p24.trans p5)) s5 e5 q5
    · exact eo.nx σ5 H5 env5 M5 A5 ((p1.s hp).trans (p24.trans p5)) s5 e5 q5
    · exact ⟨hlt, _, _, A5.take M1.length, (p24.trans p5).take hP, s5.take _, e5.cut _, hN _ _ q5⟩
  · have e : i = ds.length := by omega
    subst e
    rw [List.drop_length] at hw2
    exact .inl ⟨wk2 _ (Nat.le_refl _), eo.nx σ2 H2 env2 M2 A2 pp s2 e2 hw2⟩
theorem qs_for (hp : PassesOwn (model X.prog X.w) X.A X.env X.xe) (hc : X.calm = true) (hi : QI X tg iter wi) (hg : QG X ss tg wg) (hb : QSs X n0 body ws)
    (hs : ∀ x, foldedSetIterable iter X.env x = pure x := by intro _; rfl) : QS X n0 (.For tg iter body [] pos) (sFor wi wg ws) := by
  obtain ⟨ti, pi, di⟩ := hi
  obtain ⟨g, pg, dg⟩ := hg
  obtain ⟨tb, pb, db⟩ := hb
  exact ⟨_, ps_for hp hc pi pg pb hs, dns_for di dg db⟩
theorem dns_while {tc : TT} {tb : TS} (ht : DnT K tc wt) (hb : DnS K n0 tb ws) : DnS K n0 (tWhile tc tb) (sWhile wt ws) := by
  intro E env M hw S P A σ H D hn hp st en eo
  obtain ⟨k, hw⟩ := hw
  have hP : P.length ≤ M.length := by rw [← st.len]; exact hp.length_le
  refine ⟨fun m σ2 H2 => ∃ env2 M2 A2, PostS S P A H A2 H2 ∧ Sto K S A2 H2 M2 ∧ EnvOk K S A2 H2 env2 σ2 ∧ wWhileN wt ws M.length m E env2 M2, ⟨k, env, M, A, ⟨hp, Same.refl _, fun _ _ => rfl⟩, st, en, hw⟩, ?_⟩
  rintro m σ2 H2 ⟨env2, M2, A2, p2, s2, e2, hw2⟩
  cases m with
  | zero => exact hw2.elim
  | succ m =>
    obtain ⟨N, hN, hw2⟩ := hw2
    refine ht _ _ _ hw2 S A2 σ2 H2 _ s2 e2 fun b H3 M3 A3 p3 s3 hw3 => ?_
    have p23 : PostS S P A H A3 H3 := p2.trans (p3.s p2.pre)
    cases b with
    | false => exact eo.nx σ2 H3 env2 M3 A3 p23 s3 (e2.mono p3) hw3
    | true =>
      refine ⟨fun σ' H' => ∃ env2 M2 A2, PostS S P A H A2 H' ∧ Sto K S A2 H' M2 ∧ EnvOk K S A2 H' env2 σ' ∧ wWhileN wt ws M.length m E env2 M2, fun σ' H' q => ⟨m, Nat.lt_succ_self _, q⟩, ?_⟩
      refine hb _ env2 M3 hw3 S P A3 σ2 H3 _ hn p23.pre s3 (e2.mono p3) ⟨fun σ5 H5 env5 M5 A5 p5 s5 e5 q5 => ?_, fun v H5 r M5 A5 p5 s5 e5 q5 => ?_, fun σ5 H5 env5 M5 A5 p5 s5 e5 q5 => ?_, fun σ5 H5 env5 M5 A5 p5 s5 e5 q5 => ?_⟩
      · exact ⟨_, _, A5.take M.length, (p23.trans p5).take hP, s5.take _, e5.cut _, hN _ _ q5⟩
      · exact eo.rt v H5 r M5 A5 (p23.trans p5) s5 e5 q5
      · exact eo.nx σ5 H5 env5 M5 A5 (p23.trans p5) s5 e5 q5
      · exact ⟨_, _, A5.take M.length, (p23.trans p5).take hP, s5.take _, e5.cut _, hN _ _ q5⟩
theorem qs_while (hp : PassesOwn (model X.prog X.w) X.A X.env X.xe) (ht : QT X c wt) (hb : QSs X n0 body ws) : QS X n0 (.While c body [] pos) (sWhile wt ws) := by
  obtain ⟨tt, pt, dt⟩ := ht
  obtain ⟨tb, pb, db⟩ := hb
  exact ⟨_, ps_while hp pt pb, dns_while dt db⟩

/-! ### a list that changes -/
def wApp (wo we : WE) : WE := fun env M Q => wo env M fun o M1 => ∃ k, o = .o k ∧ (∃ ds0, M1[k]? = some (.lst ds0)) ∧ we env M1 fun r M2 => ∃ ds, M2[k]? = some (.lst ds) ∧ ∃ d, r = .d d ∧ ds.length < sizeLine ∧ Q (.d .non) (M2.set k (.lst (ds ++ [d])))
theorem qe_append {o : Expr} {wo : WE} {apos : Pos} (ho : QE X o wo) (he : QE X e we) (hbase : attributeBase o "append" X.env (eval o X.env) = eval o X.env := by rfl)
    (hfew : ((backTo pos (starEach [e] X.env)).all (fun x => !x.1) && (backToKw pos (keywordEach [] X.env)).all (fun x => x.1.isSome)
      && decide (([e] : List Expr).length + ([] : List Keyword).length + (if ([] : List Keyword).isEmpty then 0 else 1) < 30)) = true := by rfl)
    (hline : (apos.endLine == pos.line) = true := by rfl) (hs : starEach [e] X.env = (false, eval e X.env) :: starEach [] X.env := by rfl) (hplain : (backTo pos (starEach [] X.env)).any (·.1) = false := by rfl) :
    QE X (.Call (.Attribute o "append" apos) [e] [] pos) (wApp wo we) := by
  obtain ⟨to, po, do_⟩ := ho
  obtain ⟨te, pe, de⟩ := he
  refine ⟨_, pe_bm PySem.F.plainAttrs_list PySem.F.slot_list_append PySem.F.type_list_append mt_append po (pa_cons pe pa_nil hs) hbase hfew hline hs hplain, fun env M Q hw S A σ H R st en k => ?_⟩
  refine do_ env M _ hw S A σ H _ st en fun v H1 o1 M1 A1 p1 s1 q1 ⟨i, e1, ⟨ds0, e2⟩, hw1⟩ => ?_
  subst e1
  obtain ⟨x, hx, rfl⟩ := q1
  obtain ⟨vs0, g0, _⟩ := s1.mem i _ x e2 hx
  refine ⟨.inl ⟨rfl, vs0, .inl (.inl g0)⟩, ?_⟩
  refine de env M1 _ hw1 S A1 σ H1 _ s1 (en.mono p1) fun u H2 r M2 A2 p2 s2 q2 ⟨ds, e3, d, e4, hz, hq⟩ => ?_
  subst e4
  have hx2 : A2[i]? = some x := by
    obtain ⟨t, ht⟩ := p2.pre
    rw [← ht, List.getElem?_append_left (List.getElem?_eq_some_iff.mp hx).1]
    exact hx
  obtain ⟨vs, g1, g2⟩ := s2.mem i _ x e3 hx2
  refine ⟨x, vs, u, rfl, rfl, g1, by rw [g2.len]; exact hz, ?_⟩
  obtain ⟨s4, p4⟩ := s2.set (o := .lst (vs ++ [u])) (mo := .lst (ds ++ [d])) hx2 ⟨vs ++ [u], upd_same, by rw [view_set (List.mem_of_getElem? hx2)]; exact Reps.app g2 (Reps.one q2)⟩
  exact k .non _ (.d .non) _ A2 ((p1.trans p2).trans p4) s4 (show V.non = V.non from rfl) hq
/-- a list that changes no more -/
def frzR (k : Nat) (ds : List D) : Rv → Rv
  | .d x => .d x
  | .o j => if j = k then .d (.lst ds) else if k < j then .o (j - 1) else .o j
def sFrz (k : Nat) (ws : WS) : WS := fun E env M => ∃ ds, M[k]? = some (.lst ds) ∧ ws E (env.map (Option.map (frzR k ds))) (M.eraseIdx k)
theorem qs_frz (k : Nat) (hk : n0 ≤ k) (h : QSs X n0 rest ws) : QSs X n0 rest (sFrz k ws) := by
  obtain ⟨ts, ps, dd⟩ := h
  refine ⟨ts, ps, fun E env M hw S P A σ H D hn hp st en eo => ?_⟩
  obtain ⟨ds, e, hw⟩ := hw
  have hkA : k < A.length := by rw [st.len]; exact (List.getElem?_eq_some_iff.mp e).1
  have ea : A[k]? = some A[k] := List.getElem?_eq_getElem hkA
  obtain ⟨vs, g1, g2⟩ := st.mem k _ _ e ea
  have vw : Same (view S A H) (view S (A.eraseIdx k) H) := off_less fun a ha => by
    rcases List.mem_append.mp ha with h | h
    · exact List.mem_append_left _ h
    · exact List.mem_append_right _ (List.mem_of_mem_eraseIdx h)
  have nk : A[k] ∉ S ++ A.eraseIdx k := fun z => by
    rcases List.mem_append.mp z with z | z
    · exact st.dj _ (List.getElem_mem _) z
    · obtain ⟨j, hj, ej⟩ := List.mem_eraseIdx_iff_getElem.mp z
      obtain ⟨hjk, ej⟩ := ej
      exact hjk ((List.getElem_inj st.nd).mp ej)
  have st' : Sto X.K S (A.eraseIdx k) H (M.eraseIdx k) := by
    refine ⟨by rw [List.length_eraseIdx, List.length_eraseIdx, st.len], st.nd.sublist (List.eraseIdx_sublist _ _), fun a ha => st.dj a (List.mem_of_mem_eraseIdx ha), st.trk, fun j mo a h1 h2 => ?_⟩
    rw [List.getElem?_eraseIdx] at h1 h2
    split at h1
    · rename_i hj
      rw [if_pos hj] at h2
      exact (st.mem _ mo a h1 h2).to rfl vw
    · rename_i hj
      rw [if_neg hj] at h2
      exact (st.mem _ mo a h1 h2).to rfl vw
  have pre : P <+: A.eraseIdx k := by
    obtain ⟨t, rfl⟩ := hp
    rw [List.eraseIdx_append_of_length_le (by omega)]
    exact List.prefix_append _ _
  have ps' : PostS S P A H (A.eraseIdx k) H := ⟨pre, vw, fun _ _ => rfl⟩
  refine dd E _ _ hw S P (A.eraseIdx k) σ H D hn pre st' ⟨by rw [en.len]; simp, fun i r h => ?_⟩ (eo.on ps')
  rw [List.getElem?_map] at h
  cases z : env[i]? with
  | none => rw [z] at h; cases h
  | some y =>
    rw [z] at h
    cases y with
    | none => simp at h
    | some r0 =>
      simp at h
      subst h
      obtain ⟨v, e1, e2⟩ := en.at_ i _ z
      refine ⟨v, e1, ?_⟩
      cases r0 with
      | d x => exact Rep.mono vw _ _ e2
      | o j =>
        obtain ⟨x, hx, rfl⟩ := e2
        show RepV X.K S (A.eraseIdx k) H (if j = k then Rv.d (Dw.D.lst ds) else if k < j then Rv.o (j - 1) else Rv.o j) (V.ref x)
        by_cases h1 : j = k
        · rw [if_pos h1]
          subst h1
          rw [ea] at hx
          cases hx
          exact ⟨_, vs, rfl, .inl (.inl (off_of nk g1)), Reps.mono vw _ _ g2⟩
        · rw [if_neg h1]
          by_cases h2 : k < j
          · rw [if_pos h2]
            exact ⟨x, by rw [List.getElem?_eraseIdx, if_neg (by omega), Nat.sub_add_cancel (by omega)]; exact hx, rfl⟩
          · rw [if_neg h2]
            exact ⟨x, by rw [List.getElem?_eraseIdx, if_pos (by omega)]; exact hx, rfl⟩
end
end Dw
set_option Elab.async false
set_option linter.all false
set_option maxRecDepth 100000
set_option maxHeartbeats 4000000
/-! Dw9: defs and their calls. -/
namespace Dw
open PySem PySem.Spec PyProof.Rows L2
/-- what a def is worth: arguments, what it may change, what is wanted of the answer -/
abbrev Ct := List Rv → Mem → (Rv → Mem → Prop) → Prop
def spD (K : PySem.W.Frag) (φ : Ct) : Sp := fun vs H Q _ => ∃ S A M rs R, Sto K S A H M ∧ RepVs K S A H rs vs ∧ φ rs M R ∧ ∀ r M', R r M' → ∀ (v : V) (H' : Hp) (A' : List Addr), A <+: A' → Same (view S A H) (view S A' H') → (∀ a ∈ S, H' a = H a) → Sto K S A' H' M' → RepV K S A' H' r v → Q v H'
def shf (n : Nat) : Rv → Rv
  | .d x => .d x
  | .o k => .o (n + k)
/-- a call of data alone -/
def wCall (φ : Ct) (ws : WA) : WE := fun env M Q => ws env M fun rs M1 => ∃ ds, ds? rs = some ds ∧ φ (ds.map .d) [] fun r M' => Q (shf M1.length r) (M1 ++ M')
/-- a call with the j-th object that may change -/
def toC (j : Nat) : List Rv → Option (List Rv)
  | [] => some []
  | .d x :: rs => (toC j rs).map (.d x :: ·)
  | .o k :: rs => if k = j then (toC j rs).map (.o 0 :: ·) else none
def bck (j n : Nat) : Rv → Rv
  | .d x => .d x
  | .o 0 => .o j
  | .o (k + 1) => .o (n + k)
def wCallO (j : Nat) (φ : Ct) (ws : WA) : WE := fun env M Q => ws env M fun rs M1 => ∃ cs, toC j rs = some cs ∧ ∃ mo, M1[j]? = some mo ∧ φ cs [mo] fun r M' => ∃ m0, M'.head? = some m0 ∧ Q (bck j M1.length r) (M1.set j m0 ++ M'.tail)
section
variable {K : PySem.W.Frag} {S A : List Addr} {H : Hp} {M : Mem}
theorem reps_ds : ∀ {rs : List Rv} {ds : List D} {vs : List V}, RepVs K S A H rs vs → ds? rs = some ds → ∀ (S' A' : List Addr), Same (view S A H) (view S' A' H) → RepVs K S' A' H (ds.map .d) vs
  | [], _, _, r, e, _, _, _ => by cases r; cases e; rfl
  | .d x :: rs, _, _, ⟨v, us, e1, e2, e3⟩, e, S', A', sm => by
    subst e1
    unfold ds? at e
    cases z : ds? rs with
    | none => rw [z] at e; cases e
    | some es => rw [z] at e; cases e; exact ⟨v, us, rfl, Rep.mono sm _ _ e2, reps_ds e3 z S' A' sm⟩
  | .o _ :: _, _, _, _, e, _, _, _ => by cases e
theorem call_data {φ : Ct} {rs : List Rv} {ds : List D} {vs : List V} {Q : Qv} {R : VK} {E : XK} (st : Sto K S A H M) (rv : RepVs K S A H rs vs) (e : ds? rs = some ds) (h : φ (ds.map .d) [] fun r M' => Q (shf M.length r) (M ++ M'))
    (k : ∀ (v : V) (H' : Hp) (r : Rv) (M' : Mem) (A' : List Addr), Post S A H A' H' → Sto K S A' H' M' → RepV K S A' H' r v → Q r M' → R v H') : spD K φ vs H R E := by
  have sm : Same (view S A H) (view (S ++ A) [] H) := off_less fun a ha => by simpa using ha
  refine ⟨S ++ A, [], [], ds.map .d, _, ⟨rfl, by simp, by simp, st.trk', by simp⟩, reps_ds rv e _ _ sm, h, fun r M' hq v H' A' pre vw hid s' rv' => ?_⟩
  have hH : ∀ a ∈ S ++ A, H' a = H a := hid
  have v1 : Same (view S A H) (view S (A ++ A') H') := (sm.trans vw).trans (off_less fun a ha => by simpa [or_assoc] using ha)
  have v2 : Same (view (S ++ A) A' H') (view S (A ++ A') H') := off_less fun a ha => by simpa [or_assoc] using ha
  have p : Post S A H (A ++ A') H' := ⟨List.prefix_append _ _, v1, fun a ha => hH a (List.mem_append_left _ ha)⟩
  refine k v H' (shf M.length r) (M ++ M') (A ++ A') p ⟨by simp [st.len, s'.len], ?_, fun a ha => ?_, fun a ha => ?_, fun i mo a h1 h2 => ?_⟩ ?_ hq
  · rw [List.nodup_append]
    refine ⟨st.nd, s'.nd, fun a ha b hb e => s'.dj b hb (List.mem_append_right _ (e ▸ ha))⟩
  · rcases List.mem_append.mp ha with ha | ha
    · exact st.dj a ha
    · exact fun z => s'.dj a ha (List.mem_append_left _ z)
  · obtain ⟨o, eo⟩ := st.trk a ha
    exact ⟨o, by rw [hH a (List.mem_append_left _ ha)]; exact eo⟩
  · by_cases hi : i < A.length
    · rw [List.getElem?_append_left hi] at h2
      rw [List.getElem?_append_left (by rw [← st.len]; exact hi)] at h1
      exact (st.mem i mo a h1 h2).to (hH a (List.mem_append_right _ (List.mem_of_getElem? h2))) v1
    · rw [List.getElem?_append_right (by omega)] at h2
      rw [List.getElem?_append_right (by rw [← st.len]; omega), ← st.len] at h1
      exact (s'.mem _ mo a h1 h2).to rfl v2
  · cases r with
    | d x => exact Rep.mono v2 _ _ rv'
    | o i =>
      obtain ⟨a, ea, rfl⟩ := rv'
      exact ⟨a, by rw [List.getElem?_append_right (by rw [st.len]; omega), ← st.len, Nat.add_sub_cancel_left]; exact ea, rfl⟩
theorem reps_c {j : Nat} {a : Addr} (hj : A[j]? = some a) : ∀ {rs cs : List Rv} {vs : List V}, RepVs K S A H rs vs → toC j rs = some cs → ∀ (S' : List Addr), Same (view S A H) (view S' [a] H) → RepVs K S' [a] H cs vs
  | [], _, _, r, e, _, _ => by cases r; cases e; rfl
  | .d x :: rs, _, _, ⟨v, us, e1, e2, e3⟩, e, S', sm => by
    subst e1
    unfold toC at e
    cases z : toC j rs with
    | none => rw [z] at e; cases e
    | some es => rw [z] at e; cases e; exact ⟨v, us, rfl, Rep.mono sm _ _ e2, reps_c hj e3 z S' sm⟩
  | .o i :: rs, _, _, ⟨v, us, e1, e2, e3⟩, e, S', sm => by
    subst e1
    unfold toC at e
    by_cases hi : i = j
    · rw [if_pos hi] at e
      subst hi
      cases z : toC i rs with
      | none => rw [z] at e; cases e
      | some es =>
        rw [z] at e
        cases e
        obtain ⟨b, eb, rfl⟩ := e2
        rw [hj] at eb
        cases eb
        exact ⟨_, us, rfl, ⟨a, rfl, rfl⟩, reps_c hj e3 z S' sm⟩
    · rw [if_neg hi] at e; cases e
theorem call_obj {j : Nat} {mo : MO} {φ : Ct} {rs cs : List Rv} {vs : List V} {Q : Qv} {R : VK} {E : XK} (st : Sto K S A H M) (rv : RepVs K S A H rs vs) (e : toC j rs = some cs) (hm : M[j]? = some mo)
    (h : φ cs [mo] fun r M' => ∃ m0, M'.head? = some m0 ∧ Q (bck j M.length r) (M.set j m0 ++ M'.tail))
    (k : ∀ (v : V) (H' : Hp) (r : Rv) (M' : Mem) (A' : List Addr), Post S A H A' H' → Sto K S A' H' M' → RepV K S A' H' r v → Q r M' → R v H') : spD K φ vs H R E := by
  have hjl : j < A.length := by rw [st.len]; exact (List.getElem?_eq_some_iff.mp hm).1
  have hj : A[j]? = some A[j] := List.getElem?_eq_getElem hjl
  generalize A[j] = a at hj
  have ha : a ∈ A := List.mem_of_getElem? hj
  have mem1 : ∀ b, b ∈ A → b = a ∨ b ∈ A.eraseIdx j := fun b hb => by
    by_cases e : b = a
    · exact .inl e
    · right
      obtain ⟨i, hi, ei⟩ := List.getElem_of_mem hb
      refine List.mem_eraseIdx_iff_getElem.mpr ⟨i, hi, fun z => e ?_, ei⟩
      subst z
      rw [List.getElem?_eq_getElem hi] at hj
      rw [← ei]; exact Option.some.inj hj
  have nea : a ∉ A.eraseIdx j := fun z => by
    obtain ⟨i, hi, hij, ei⟩ := List.mem_eraseIdx_iff_getElem.mp z
    rw [List.getElem?_eq_getElem hjl] at hj
    exact hij ((List.getElem_inj st.nd).mp (ei.trans (Option.some.inj hj).symm))
  have eqm : ∀ b, b ∈ (S ++ A.eraseIdx j) ++ [a] ↔ b ∈ S ++ A := fun b => by
    simp only [List.mem_append, List.mem_singleton]
    constructor
    · rintro ((h | h) | h)
      · exact .inl h
      · exact .inr (List.mem_of_mem_eraseIdx h)
      · exact .inr (h ▸ ha)
    · rintro (h | h)
      · exact .inl (.inl h)
      · rcases mem1 b h with h | h
        · exact .inr h
        · exact .inl (.inr h)
  have sm : Same (view S A H) (view (S ++ A.eraseIdx j) [a] H) := off_less fun b hb => (eqm b).mp hb
  have trk' : ∀ b ∈ S ++ A.eraseIdx j, ∃ o, H b = some o := fun b hb => st.trk' b ((eqm b).mp (List.mem_append_left _ hb))
  refine ⟨S ++ A.eraseIdx j, [a], [mo], cs, _, ⟨rfl, by simp, fun b hb z => ?_, trk', fun i m b h1 h2 => ?_⟩, reps_c hj rv e _ sm, h, fun r M' hq v H' A' pre vw hid s' rv' => ?_⟩
  · have eb : b = a := by simpa using hb
    subst eb
    rcases List.mem_append.mp z with z | z
    · exact st.dj b ha z
    · exact nea z
  · cases i with
    | zero => simp at h1 h2; subst h1 h2; exact (st.mem j _ _ hm hj).to rfl sm
    | succ i => simp at h1
  obtain ⟨m0, em0, hq⟩ := hq
  obtain ⟨more, rfl⟩ : ∃ r, M' = m0 :: r := ⟨M'.tail, headTail em0⟩
  obtain ⟨A2, rfl⟩ : ∃ A2, A' = a :: A2 := by
    obtain ⟨t, rfl⟩ := pre
    exact ⟨t, rfl⟩
  have nd' := s'.nd
  rw [List.nodup_cons] at nd'
  have v2 : Same (view (S ++ A.eraseIdx j) (a :: A2) H') (view S (A ++ A2) H') := off_less fun b hb => by
    rw [← List.append_assoc] at hb
    rcases List.mem_append.mp hb with hb | hb
    · have := (eqm b).mpr hb
      rcases List.mem_append.mp this with h | h
      · exact List.mem_append_left _ h
      · exact List.mem_append_right _ (by simp at h; simp [h])
    · exact List.mem_append_right _ (List.mem_cons_of_mem _ hb)
  have v1 : Same (view S A H) (view S (A ++ A2) H') := (sm.trans vw).trans v2
  have hH : ∀ b, b ∈ S ∨ b ∈ A.eraseIdx j → H' b = H b := fun b hb => hid b (List.mem_append.mpr hb)
  have p : Post S A H (A ++ A2) H' := ⟨List.prefix_append _ _, v1, fun b hb => hH b (.inl hb)⟩
  have nA : ∀ b ∈ A2, b ∉ S ++ A := fun b hb z => by
    rcases List.mem_append.mp ((eqm b).mpr z) with z | z
    · exact s'.dj b (List.mem_cons_of_mem _ hb) z
    · have eb : b = a := by simpa using z
      subst eb
      exact nd'.1 hb
  have hl1 : M.length = A.length := st.len.symm
  have hl2 : A2.length = more.length := by have := s'.len; simpa using this
  refine k v H' (bck j M.length r) (M.set j m0 ++ more) (A ++ A2) p ⟨by simp [hl1, hl2], ?_, fun b hb => ?_, fun b hb => ?_, fun i m b h1 h2 => ?_⟩ ?_ hq
  · rw [List.nodup_append]
    exact ⟨st.nd, nd'.2, fun b hb c hc e => nA c hc (List.mem_append_right _ (e ▸ hb))⟩
  · rcases List.mem_append.mp hb with hb | hb
    · exact st.dj b hb
    · exact fun z => nA b hb (List.mem_append_left _ z)
  · obtain ⟨o, eo⟩ := st.trk b hb
    exact ⟨o, by rw [hH b (.inl hb)]; exact eo⟩
  · by_cases hi : i < A.length
    · rw [List.getElem?_append_left hi] at h2
      rw [List.getElem?_append_left (by simp [hl1]; exact hi)] at h1
      by_cases hij : i = j
      · subst hij
        rw [hj] at h2
        cases h2
        rw [List.getElem?_set_self (by rw [hl1]; exact hi)] at h1
        cases h1
        exact (s'.mem 0 _ a rfl rfl).to rfl v2
      · rw [List.getElem?_set_ne (Ne.symm hij)] at h1
        have hb : b ∈ A.eraseIdx j := List.mem_eraseIdx_iff_getElem.mpr ⟨i, hi, hij, by rw [List.getElem?_eq_getElem hi] at h2; exact Option.some.inj h2⟩
        exact (st.mem i m b h1 h2).to (hH b (.inr hb)) v1
    · rw [List.getElem?_append_right (by omega)] at h2
      rw [List.getElem?_append_right (by simp [hl1]; omega)] at h1
      simp only [List.length_set, hl1] at h1
      exact (s'.mem (i - A.length + 1) m b (by simpa using h1) (by simpa using h2)).to rfl v2
  · cases r with
    | d x => exact Rep.mono v2 _ _ rv'
    | o i =>
      obtain ⟨b, eb, rfl⟩ := rv'
      cases i with
      | zero =>
        have : a = b := by simpa using eb
        subst this
        exact ⟨a, by rw [List.getElem?_append_left hjl]; exact hj, rfl⟩
      | succ i => exact ⟨b, by rw [hl1, List.getElem?_append_right (by omega), Nat.add_sub_cancel_left]; simpa using eb, rfl⟩
end

section
variable {X : Cx} {k : Nat} {f : Addr} {fd : FuncData} {ps : List Str} {φ : Ct} {x : Str} {p pos : Pos} {e : Expr} {es : List Expr} {ws wk : WA} {kws : List Keyword}
theorem qe_call (F : FnOk X.prog X.w X.K X.mg X.base CX0 k f fd ps (spD X.K φ)) (hr : Room k X.A) (hg : Gl X x) (hm : X.mg x = some (.ref f)) (hk : PySem.W.keepIn X.K (.ref f) = true) (hb : Binds X.K fd ps [])
    (ha : QA X (e :: es) ws) (hdb : (x == ("__debug__" : Str)) = false := by decide) (he : starEach (e :: es) X.env = (false, eval e X.env) :: starEach es X.env := by rfl) (hpl : (backTo pos (starEach es X.env)).any (·.1) = false := by rfl) :
    QE X (.Call (.Name x p) (e :: es) [] pos) (wCall φ ws) := by
  obtain ⟨ta, pa, da⟩ := ha
  refine ⟨_, pe_call F hr hg hm hk hb .nil pass0 pa hdb he hpl, fun env M Q hw S A σ H R st en k => ?_⟩
  refine da env M _ hw S A σ H _ st en fun vs H1 rs M1 A1 p1 s1 q1 ⟨ds, e, h⟩ => ?_
  rw [List.append_nil]
  exact call_data s1 q1 e h fun v H' r M' A' p s q hq => k v H' r M' A' (p1.trans p) s q hq
theorem qe_callO (j : Nat) (F : FnOk X.prog X.w X.K X.mg X.base CX0 k f fd ps (spD X.K φ)) (hr : Room k X.A) (hg : Gl X x) (hm : X.mg x = some (.ref f)) (hk : PySem.W.keepIn X.K (.ref f) = true) (hb : Binds X.K fd ps [])
    (ha : QA X (e :: es) ws) (hdb : (x == ("__debug__" : Str)) = false := by decide) (he : starEach (e :: es) X.env = (false, eval e X.env) :: starEach es X.env := by rfl) (hpl : (backTo pos (starEach es X.env)).any (·.1) = false := by rfl) :
    QE X (.Call (.Name x p) (e :: es) [] pos) (wCallO j φ ws) := by
  obtain ⟨ta, pa, da⟩ := ha
  refine ⟨_, pe_call F hr hg hm hk hb .nil pass0 pa hdb he hpl, fun env M Q hw S A σ H R st en k => ?_⟩
  refine da env M _ hw S A σ H _ st en fun vs H1 rs M1 A1 p1 s1 q1 ⟨cs, e1, mo, e2, h⟩ => ?_
  rw [List.append_nil]
  exact call_obj s1 q1 e1 e2 h fun v H' r M' A' p s q hq => k v H' r M' A' (p1.trans p) s q hq
/-! ### keywords -/
def kg (n : Nat) (π : List Nat) {α : Type} (us ws : List α) : List α := if us.length = n ∧ ws.length = π.length then us ++ π.filterMap (ws[·]?) else []
theorem vals_pick {vs : List V} {us : List Value} (r : Vals vs us) : ∀ π : List Nat, Vals (π.filterMap (vs[·]?)) (π.filterMap (us[·]?))
  | [] => .nil
  | i :: π => by
    cases z : vs[i]? with
    | none => rw [List.filterMap_cons_none z, List.filterMap_cons_none (r.none_of z)]; exact vals_pick r π
    | some v =>
      obtain ⟨u, e, q⟩ := r.get z
      rw [List.filterMap_cons_some z, List.filterMap_cons_some e]
      exact .cons q (vals_pick r π)
theorem kb {K : PySem.W.Frag} {x qual : Str} {params : Arguments} {body : List Stmt} {scope : Scope} {f : Addr} {fd : FuncData} {ps ks : List Str} (F : FunD K x qual params body scope [] [] f fd) (n : Nat) (π : List Nat) (hp : ps.length ≠ 0)
    (h : ∀ (kV doc pm : Value) (an : Option Addr) (cdv ct : Value) (us ws : List Value), us.length = n → ws.length = π.length → bindArgs (PySem.W.fnOf x qual params body scope .none kV doc pm an cdv ct) ⟨us, ks.zip ws⟩ = pure (ps.zip (us ++ π.filterMap (ws[·]?)))) : KBinds K fd ps ks (kg n π) (kg n π) := by
  obtain ⟨oc, od, dV, kV, doc, pm, an, cdv, ct, osl, rfl, lk, hcd, hD, hK⟩ := F.ex
  rcases hD with ⟨_, rfl⟩ | ⟨e, _⟩
  · refine ⟨fun s us ws _ hl => ?_, fun {vs us zs ws} r s => ?_⟩
    · unfold kg at hl ⊢
      by_cases q : us.length = n ∧ ws.length = π.length
      · rw [if_pos q]
        exact .of_eq (h kV doc pm an cdv ct us ws q.1 q.2)
      · rw [if_neg q] at hl
        exact absurd hl.symm hp
    · unfold kg
      rw [r.length, s.length]
      by_cases q : us.length = n ∧ ws.length = π.length
      · rw [if_pos q, if_pos q]
        exact r.append (vals_pick s π)
      · rw [if_neg q, if_neg q]; exact .nil
  · exact absurd rfl e
def QK (X : Cx) (kws : List Keyword) (wa : WA) : Prop := ∃ ta, PK X kws ta ∧ DnA X.K ta wa
theorem qk_nil : QK X [] wNil := ⟨_, pk_nil, fun env M Q hw S A σ H R st en k => k [] H [] M A Post.refl st rfl hw⟩
theorem qk_cons {nm : Option Str} {kpos : Pos} {we : WE} (h : QE X e we) (g : QK X kws ws) : QK X (⟨nm, e, kpos⟩ :: kws) (wCons we ws) := by
  obtain ⟨te, pe, de⟩ := h
  obtain ⟨ta, pa, da⟩ := g
  refine ⟨_, pk_cons pe pa, fun env M Q hw S A σ H R st en k => ?_⟩
  refine de env M _ hw S A σ H _ st en fun v H1 x M1 A1 p1 s1 q1 hw1 => ?_
  exact da env M1 _ hw1 S A1 σ H1 _ s1 (en.mono p1) fun vs H2 rs M2 A2 p2 s2 q2 hq => k (v :: vs) H2 (x :: rs) M2 A2 (p1.trans p2) s2 ⟨v, vs, rfl, q1.mono p2, q2⟩ hq
/-- f(k = v, ..) -/
theorem pe_callK0 {sp : Sp} {E : XK} {CX : CXT} {ks : List Str} {g : List Value → List Value → List Value} {gV : List V → List V → List V} {tk : TA} (F : FnOk X.prog X.w X.K X.mg X.base CX k f fd ps sp) (hr : Room k X.A) (hg : Gl X x) (hm : X.mg x = some (.ref f)) (hk : PySem.W.keepIn X.K (.ref f) = true) (hb : KBinds X.K fd ps ks g gV) (hx : Passes CX X E)
    (hkw : PK X kws tk) (hall : (backToKw pos (keywordEach kws X.env)).all (·.1.isSome) = true := by rfl) (hks : (backToKw pos (keywordEach kws X.env)).filterMap (·.1) = ks := by rfl)
    (hdb : (x == ("__debug__" : Str)) = false := by decide)
    (hpl : ((backTo pos (starEach [] X.env)).any (·.1) || (backToKw pos (keywordEach kws X.env)).any (·.1.isNone)) = false := by rfl) :
    PE X (.Call (.Name x p) [] kws pos) (tCallK sp gV E tNil tk) := by
  refine ⟨fun pins s σ H Q I h => ?_⟩
  refine wpAny_Call_Name_kw (ld_glob I hg hm ?_ hdb)
  refine PySem.W.callWith_KW0 (h₀ := X.base) I.ok.mod.kin hk hall (thn (hkw.run pos pins s σ H _ I h) fun ws s2 ⟨zs, H2, I2, rz, q2⟩ => ⟨I2.kIn, ?_⟩) hpl
  rw [hks]
  exact run_fnk F hr hb hx I2 .nil rz q2
def wKw (n : Nat) (π : List Nat) (ws wk : WA) : WA := fun env M Q => ws env M fun rs M1 => wk env M1 fun zs M2 => Q (kg n π rs zs) M2
theorem RepVs.get {K : PySem.W.Frag} {S A : List Addr} {H : Hp} : ∀ {rs : List Rv} {vs : List V}, RepVs K S A H rs vs → ∀ (i : Nat), (rs[i]? = none ∧ vs[i]? = none) ∨ ∃ r v, rs[i]? = some r ∧ vs[i]? = some v ∧ RepV K S A H r v
  | [], _, r, i => by cases r; exact .inl ⟨by simp, by simp⟩
  | r :: rs, _, ⟨v, us, e1, e2, e3⟩, 0 => by subst e1; exact .inr ⟨r, v, rfl, rfl, e2⟩
  | r :: rs, _, ⟨v, us, e1, e2, e3⟩, i + 1 => by subst e1; simpa using RepVs.get e3 i
theorem RepVs.pick {K : PySem.W.Frag} {S A : List Addr} {H : Hp} {rs : List Rv} {vs : List V} (h : RepVs K S A H rs vs) : ∀ π : List Nat, RepVs K S A H (π.filterMap (rs[·]?)) (π.filterMap (vs[·]?))
  | [] => rfl
  | i :: π => by
    rcases h.get i with ⟨e1, e2⟩ | ⟨r, v, e1, e2, q⟩
    · rw [List.filterMap_cons_none e1, List.filterMap_cons_none e2]; exact RepVs.pick h π
    · rw [List.filterMap_cons_some e1, List.filterMap_cons_some e2]; exact ⟨v, _, rfl, q, RepVs.pick h π⟩
theorem RepVs.app {K : PySem.W.Frag} {S A : List Addr} {H : Hp} : ∀ {rs zs : List Rv} {vs us : List V}, RepVs K S A H rs vs → RepVs K S A H zs us → RepVs K S A H (rs ++ zs) (vs ++ us)
  | [], _, _, _, r, s => by cases r; exact s
  | r :: rs, _, _, _, ⟨v, ws, e1, e2, e3⟩, s => by subst e1; exact ⟨v, _, rfl, e2, RepVs.app e3 s⟩
theorem RepVs.kg {K : PySem.W.Frag} {S A : List Addr} {H : Hp} {n : Nat} {π : List Nat} {rs zs : List Rv} {vs us : List V} (h : RepVs K S A H rs vs) (g : RepVs K S A H zs us) : RepVs K S A H (Dw.kg n π rs zs) (Dw.kg n π vs us) := by
  unfold Dw.kg
  rw [h.len, g.len]
  by_cases q : rs.length = n ∧ zs.length = π.length
  · rw [if_pos q, if_pos q]; exact h.app (g.pick π)
  · rw [if_neg q, if_neg q]; rfl
theorem dn_callK {E : XK} {n : Nat} {π : List Nat} {t tk : TA} (ha : DnA X.K t ws) (hk : DnA X.K tk wk) : Dn X.K (tCallK (spD X.K φ) (kg n π) E t tk) (wCall φ (wKw n π ws wk)) := by
  intro env M Q hw S A σ H R st en k
  refine ha env M _ hw S A σ H _ st en fun vs H1 rs M1 A1 p1 s1 q1 hw1 => ?_
  refine hk env M1 _ hw1 S A1 σ H1 _ s1 (en.mono p1) fun us H2 zs M2 A2 p2 s2 q2 ⟨ds, e, h⟩ => ?_
  have q3 : RepVs X.K S A2 H2 (kg n π rs zs) (kg n π vs us) := (q1.mono p2).kg q2
  exact call_data s2 q3 e h fun v H' r M' A' p s q hq => k v H' r M' A' ((p1.trans p2).trans p) s q hq
theorem qe_callK {n : Nat} {π : List Nat} {ks : List Str} (F : FnOk X.prog X.w X.K X.mg X.base CX0 k f fd ps (spD X.K φ)) (hr : Room k X.A) (hg : Gl X x) (hm : X.mg x = some (.ref f)) (hk : PySem.W.keepIn X.K (.ref f) = true) (hb : KBinds X.K fd ps ks (kg n π) (kg n π))
    (ha : QA X (e :: es) ws) (hkw : QK X kws wk) (hall : (backToKw pos (keywordEach kws X.env)).all (·.1.isSome) = true := by rfl) (hks : (backToKw pos (keywordEach kws X.env)).filterMap (·.1) = ks := by rfl)
    (hdb : (x == ("__debug__" : Str)) = false := by decide) (he : starEach (e :: es) X.env = (false, eval e X.env) :: starEach es X.env := by rfl)
    (hpl : ((backTo pos (starEach (e :: es) X.env)).any (·.1) || (backToKw pos (keywordEach kws X.env)).any (·.1.isNone)) = false := by rfl) :
    QE X (.Call (.Name x p) (e :: es) kws pos) (wCall φ (wKw n π ws wk)) := by
  obtain ⟨ta, pa, da⟩ := ha
  obtain ⟨tk, pk, dk⟩ := hkw
  exact ⟨_, pe_callK F hr hg hm hk hb pass0 pa pk hall hks hdb he hpl, dn_callK da dk⟩
theorem qe_callK0 {n : Nat} {π : List Nat} {ks : List Str} (F : FnOk X.prog X.w X.K X.mg X.base CX0 k f fd ps (spD X.K φ)) (hr : Room k X.A) (hg : Gl X x) (hm : X.mg x = some (.ref f)) (hk : PySem.W.keepIn X.K (.ref f) = true) (hb : KBinds X.K fd ps ks (kg n π) (kg n π))
    (hkw : QK X kws wk) (hall : (backToKw pos (keywordEach kws X.env)).all (·.1.isSome) = true := by rfl) (hks : (backToKw pos (keywordEach kws X.env)).filterMap (·.1) = ks := by rfl)
    (hdb : (x == ("__debug__" : Str)) = false := by decide)
    (hpl : ((backTo pos (starEach [] X.env)).any (·.1) || (backToKw pos (keywordEach kws X.env)).any (·.1.isNone)) = false := by rfl) :
    QE X (.Call (.Name x p) [] kws pos) (wCall φ (wKw n π wNil wk)) := by
  obtain ⟨tk, pk, dk⟩ := hkw
  exact ⟨_, pe_callK0 F hr hg hm hk hb pass0 pk hall hks hdb hpl, dn_callK (fun env M Q hw S A σ H R st en k => k [] H [] M A Post.refl st rfl hw) dk⟩
end

/-! ### a def keeps its contract -/
def retR (n0 : Nat) (R : Rv → Mem → Prop) : Rv → Mem → Prop
  | .d x, M => R (.d x) (M.take n0)
  | .o k, M => if k < n0 then R (.o k) (M.take n0) else ∃ mo, M[k]? = some mo ∧ R (.o n0) (M.take n0 ++ [mo])
def endsOf (n0 : Nat) (R : Rv → Mem → Prop) : EndsD := ⟨fun _ M => retR n0 R (.d .non) M, retR n0 R, fun _ _ => False, fun _ _ => False⟩
def startE (N : List Str) (rs : List Rv) : Env' := rs.map some ++ List.replicate (N.length - rs.length) none
section
variable {K : PySem.W.Frag} {S A : List Addr} {H : Hp} {M : Mem}
theorem start_ok {N : List Str} {rs : List Rv} {vs : List V} (h : RepVs K S A H rs vs) : EnvOk K S A H (startE N rs) (L2.start N vs) := by
  have hl := h.len
  refine ⟨by simp [L2.start, startE, hl], fun i r e => ?_⟩
  unfold startE at e
  by_cases hi : i < rs.length
  · rw [List.getElem?_append_left (by simpa using hi), List.getElem?_map] at e
    rcases h.get i with ⟨e1, _⟩ | ⟨r', v, e1, e2, q⟩
    · rw [e1] at e; cases e
    · rw [e1] at e
      simp at e
      subst e
      refine ⟨v, ?_, q⟩
      unfold L2.start
      rw [List.getElem?_append_left (by simp [hl]; exact hi), List.getElem?_map, e2]
      rfl
  · rw [List.getElem?_append_right (by simpa using hi), List.getElem?_replicate] at e
    split at e <;> cases e
variable {P : Program} {w : World} {mg : Str → Option Value} {base : Heap} {x qual : Str} {params : Arguments} {body : List Stmt} {scope : Scope} {f : Addr} {fd : FuncData}
theorem fnD {N ps : List Str} {k n0 : Nat} {φ : Ct} (F : FunD K x qual params body scope [] [] f fd) (Sc : FnScope N ps scope) (hl : ∀ rs M R, φ rs M R → rs.length = ps.length ∧ M.length = n0)
    (hbody : ∀ (cdv : Value) (A : Around) (outer : List Env) (s : Shared) (H : Hp) (E : XK), Room k (A.deeper (envOfC qual scope s.heap.objs.size f cdv)) →
      ∃ ws, QSs (cxOf CX0 P w K mg base N qual scope f cdv A outer s H E).nox n0 body ws ∧ ∀ rs M R, φ rs M R → ws (endsOf n0 R) (startE N rs) M) : FnOk P w K mg base CX0 (k + 1) f fd ps (spD K φ) := by
  refine F.ok Sc (fun vs H Q E h => ?_) fun cdv Ar outer s H vs Q E hr h => ?_
  · obtain ⟨S, A, M, rs, R, st, rv, hφ, _⟩ := h
    rw [rv.len]; exact (hl _ _ _ hφ).1
  · obtain ⟨S, A, M, rs, R, st, rv, hφ, kk⟩ := h
    obtain ⟨ws, ⟨ts, pss, dn⟩, rd⟩ := hbody cdv Ar outer s H E hr
    have hn : A.length = n0 := by rw [st.len]; exact (hl _ _ _ hφ).2
    refine ⟨ts, pss.nox, dn _ _ _ (rd rs M R hφ) S A A (L2.start N vs) H _ hn (List.prefix_refl _) st (start_ok rv) ?_⟩
    have fin : ∀ (v : V) (H' : Hp) (r : Rv) (M' : Mem) (A' : List Addr), PostS S A A H A' H' → Sto K S A' H' M' → RepV K S A' H' r v → retR n0 R r M' → Q v H' := by
      intro v H' r M' A' p s' rv' hq
      have tk : A'.take n0 = A := by
        obtain ⟨t, rfl⟩ := p.pre
        rw [← hn, List.take_left]
      cases r with
      | d y =>
        refine kk _ _ hq v H' A (List.prefix_refl _) ?_ p.hid ?_ ?_
        · exact p.view.trans (tk ▸ view_take n0)
        · rw [← tk]; exact s'.take n0
        · rw [← tk]; exact Rep.mono (view_take n0) _ _ rv'
      | o i =>
        obtain ⟨a, ea, rfl⟩ := rv'
        by_cases hi : i < n0
        · have hq : (if i < n0 then R (.o i) (M'.take n0) else ∃ mo, M'[i]? = some mo ∧ R (.o n0) (M'.take n0 ++ [mo])) := hq
          rw [if_pos hi] at hq
          refine kk _ _ hq _ H' A (List.prefix_refl _) ?_ p.hid ?_ ?_
          · exact p.view.trans (tk ▸ view_take n0)
          · rw [← tk]; exact s'.take n0
          · exact ⟨a, by rw [← tk, List.getElem?_take, if_pos hi]; exact ea, rfl⟩
        · have hq : (if i < n0 then R (.o i) (M'.take n0) else ∃ mo, M'[i]? = some mo ∧ R (.o n0) (M'.take n0 ++ [mo])) := hq
          rw [if_neg hi] at hq
          obtain ⟨mo, em, hq⟩ := hq
          have st1 := s'.take n0
          rw [tk] at st1
          have v3 : Same (view S A' H') (view S (A ++ [a]) H') := off_less fun b hb => by
            rcases List.mem_append.mp hb with h | h
            · exact List.mem_append_left _ h
            · rcases List.mem_append.mp h with h | h
              · obtain ⟨t, rfl⟩ := p.pre; exact List.mem_append_right _ (List.mem_append_left _ h)
              · have : b = a := by simpa using h
                exact List.mem_append_right _ (this ▸ List.mem_of_getElem? ea)
          have na : a ∉ A := fun z => by
            rw [← tk] at z
            obtain ⟨j, hj, ej⟩ := List.getElem_of_mem z
            rw [List.length_take] at hj
            rw [List.getElem_take] at ej
            obtain ⟨h3, e3⟩ := List.getElem?_eq_some_iff.mp ea
            have := (List.getElem_inj s'.nd).mp (ej.trans e3.symm)
            omega
          refine kk _ _ hq _ H' (A ++ [a]) (List.prefix_append _ _) (p.view.trans v3) p.hid ⟨by rw [List.length_append, List.length_append, st1.len]; rfl, ?_, fun b hb => ?_, s'.trk, fun j m b h1 h2 => ?_⟩ ⟨a, ?_, rfl⟩
          · rw [List.nodup_append]
            exact ⟨st.nd, by simp, fun b hb c hc e => na (by
              have h5 : c = a := by simpa using hc
              rw [← h5, ← e]; exact hb)⟩
          · rcases List.mem_append.mp hb with h | h
            · exact st.dj b h
            · have : b = a := by simpa using h
              exact this ▸ s'.dj a (List.mem_of_getElem? ea)
          · by_cases hj : j < A.length
            · rw [List.getElem?_append_left hj] at h2
              rw [List.getElem?_append_left (by rw [← st1.len]; exact hj)] at h1
              rw [List.getElem?_take] at h1
              split at h1
              · obtain ⟨t, ht⟩ := p.pre
                exact (s'.mem j m b h1 (by rw [← ht, List.getElem?_append_left hj]; exact h2)).to rfl v3
              · cases h1
            · rw [List.getElem?_append_right (by omega)] at h2
              rw [List.getElem?_append_right (by rw [← st1.len]; omega), ← st1.len] at h1
              have hj2 : j - A.length = 0 := by
                have := (List.getElem?_eq_some_iff.mp h2).1
                simp at this; omega
              rw [hj2] at h1 h2
              simp at h1 h2
              subst h1 h2
              exact (s'.mem i _ _ em ea).to rfl v3
          · rw [← hn, List.getElem?_append_right (Nat.le_refl _)]; simp
    exact ⟨fun σ' H' env' M' A' p s' _ q => fin .non H' (.d .non) M' A' p s' (show V.non = V.non from rfl) q, fin, fun _ _ _ _ _ _ _ _ q => q.elim, fun _ _ _ _ _ _ _ _ q => q.elim⟩
end
end Dw
set_option Elab.async false
set_option linter.all false
set_option maxRecDepth 100000
set_option maxHeartbeats 4000000
/-! Dw10: comprehensions as expressions; joins; truth of lists. -/
namespace Dw
open PySem PySem.Spec PyProof.Rows L2
def canE (K : PySem.W.Frag) (we : WE) : TE := fun σ H R => ∃ (env : Env') (M : Mem) (Q : Qv) (S A : List Addr), we env M Q ∧ Sto K S A H M ∧ EnvOk K S A H env σ ∧
  ∀ (v : V) (H' : Hp) (r : Rv) (M' : Mem) (A' : List Addr), Post S A H A' H' → Sto K S A' H' M' → RepV K S A' H' r v → Q r M' → R v H'
def canT (K : PySem.W.Frag) (wt : WT) : TT := fun σ H R => ∃ (env : Env') (M : Mem) (Q : Bool → Mem → Prop) (S A : List Addr), wt env M Q ∧ Sto K S A H M ∧ EnvOk K S A H env σ ∧
  ∀ (b : Bool) (H' : Hp) (M' : Mem) (A' : List Addr), Post S A H A' H' → Sto K S A' H' M' → Q b M' → R b H'
def canG (K : PySem.W.Frag) (ss : List Nat) (wg : WG) : TG := fun v σ H R => ∃ (r : Rv) (env : Env') (M : Mem) (Q : Env' → Mem → Prop) (S A : List Addr), wg r env M Q ∧ Sto K S A H M ∧ EnvOk K S A H env σ ∧ RepV K S A H r v ∧
  ∀ (σ' : L2.St) (H' : Hp) (env' : Env') (M' : Mem) (A' : List Addr), Post S A H A' H' → Sto K S A' H' M' → EnvOk K S A' H' env' σ' → (∀ vs : List Nat, (∀ i ∈ ss, i ∈ vs) → wipe σ' vs = wipe σ vs) → Q env' M' → R σ' H'
def QTs (X : Cx) (ifs : List Expr) (wt : WT) : Prop := ∃ tt, PTs X ifs tt ∧ DnT X.K tt wt
section
variable {X : Cx} {K : PySem.W.Frag} {n0 : Nat} {e a b c tg iter elt : Expr} {we wa wb : WE} {wt : WT} {ws : WA} {wi : WI} {wg : WG} {ss : List Nat} {p pos apos : Pos}
theorem QE.pe (h : QE X e we) : PE X e (canE X.K we) := by
  obtain ⟨te, pe, de⟩ := h
  exact ⟨fun pins s σ H R I ⟨env, M, Q, S, A, hw, st, en, k⟩ => pe.run pins s σ H R I (de env M Q hw S A σ H R st en k)⟩
theorem dn_can : Dn K (canE K we) we := fun env M Q hw S A σ H R st en k => ⟨env, M, Q, S, A, hw, st, en, k⟩
theorem QTs.pts {ifs : List Expr} (h : QTs X ifs wt) : PTs X ifs (canT X.K wt) := by
  obtain ⟨tt, pt, dt⟩ := h
  exact ⟨fun pins s σ H R I ⟨env, M, Q, S, A, hw, st, en, k⟩ => pt.run pins s σ H R I (dt env M Q hw S A σ H R st en k)⟩
theorem dnt_can : DnT K (canT K wt) wt := fun env M Q hw S A σ H R st en k => ⟨env, M, Q, S, A, hw, st, en, k⟩
theorem QG.pg (h : QG X ss tg wg) : PG X tg (canG X.K ss wg) := by
  obtain ⟨g, pg, dg⟩ := h
  exact ⟨fun pins s σ H v u R I r ⟨rv, env, M, Q, S, A, hw, st, en, q, k⟩ => pg.run pins s σ H v u R I r (dg rv env M Q hw S A σ H v R st en q k)⟩
theorem dng_can : DnG K ss (canG K ss wg) wg := fun r env M Q hw S A σ H v R st en q k => ⟨r, env, M, Q, S, A, hw, st, en, q, k⟩
theorem qts_nil : QTs X [] wYes := ⟨_, pts_nil, fun env M Q hw S A σ H R st en k => k true H M A Post.refl st hw⟩
theorem qts_one (h : QT X c wt) : QTs X [c] wt := by
  obtain ⟨tt, pt, dt⟩ := h
  exact ⟨tt, pts_one pt, dt⟩
variable {ifs : List Expr} {scope : Scope} {own : List (Str × Nat)}
theorem qe_lc (hc : X.calm = true) (hN : X.N.Nodup) (hi : QI X tg iter wi) (ok : BlkOk X.N X.env.scope scope own) (hss : ∀ i ∈ ss, i ∈ own.map (·.2))
    (hg : ∀ (s : Shared) (H : Hp) (C : Addr) (cl : List (Str × Addr)) (fp : List Addr), QG (X.blk s H scope (compEnvC scope cl C X.env) fp) ss tg wg)
    (ht : ∀ (s : Shared) (H : Hp) (C : Addr) (cl : List (Str × Addr)) (fp : List Addr), QTs (X.blk s H scope (compEnvC scope cl C X.env) fp) ifs wt)
    (he : ∀ (s : Shared) (H : Hp) (C : Addr) (cl : List (Str × Addr)) (fp : List Addr), QE (X.blk s H scope (compEnvC scope cl C X.env) fp) elt we) (hs : ∀ x, foldedSetIterable iter X.env x = pure x := by intro _; rfl) :
    QE X (.ListComp elt [⟨tg, iter, ifs, 0⟩] scope pos) (wLc wi wg wt we (own.map (·.2))) := by
  obtain ⟨ti, pi, di⟩ := hi
  exact ⟨_, pe_lc hc hN pi ok (g := canG X.K ss wg) (tt := canT X.K wt) (te := canE X.K we) (fun s H C cl fp => (hg s H C cl fp).pg) (fun s H C cl fp => (ht s H C cl fp).pts) (fun s H C cl fp => (he s H C cl fp).pe) hs, dn_lc di dng_can dnt_can dn_can hss⟩
theorem qs_setLc {i : Nat} {y : Str} {py spos : Pos} (hc : X.calm = true) (hN : X.N.Nodup) (hy : X.N[i]? = some y) (hyl : X.env.scope.names.lookup y = some .local)
    (hsw : swapsWith (.ListComp elt [⟨tg, iter, ifs, 0⟩] scope pos) (some (.Name y py)) spos.line X.env = pure true) (hi : QI X tg iter wi) (ok : BlkOk X.N X.env.scope scope own) (hss : ∀ i ∈ ss, i ∈ own.map (·.2))
    (hg : ∀ (s : Shared) (H : Hp) (C : Addr) (cl : List (Str × Addr)) (fp : List Addr), QG (X.blk s H scope (compEnvC scope cl C X.env) fp) ss tg wg)
    (ht : ∀ (s : Shared) (H : Hp) (C : Addr) (cl : List (Str × Addr)) (fp : List Addr), QTs (X.blk s H scope (compEnvC scope cl C X.env) fp) ifs wt)
    (he : ∀ (s : Shared) (H : Hp) (C : Addr) (cl : List (Str × Addr)) (fp : List Addr), QE (X.blk s H scope (compEnvC scope cl C X.env) fp) elt we) (hs : ∀ x, foldedSetIterable iter X.env x = pure x := by intro _; rfl) :
    QS X n0 (.Assign [.Name y py] (.ListComp elt [⟨tg, iter, ifs, 0⟩] scope pos) spos) (sSet i (wLc wi wg wt we (own.map (·.2)))) := by
  obtain ⟨ti, pi, di⟩ := hi
  exact ⟨_, ps_setLc hc hN hy hyl hsw pi ok (g := canG X.K ss wg) (tt := canT X.K wt) (te := canE X.K we) (fun s H C cl fp => (hg s H C cl fp).pg) (fun s H C cl fp => (ht s H C cl fp).pts) (fun s H C cl fp => (he s H C cl fp).pe) hs, dns_set (dn_lc di dng_can dnt_can dn_can hss)⟩
/-! ### sep.join(texts) -/
def wJoin (wo we : WE) : WE := fun env M Q => wo env M fun o M1 => ∃ a, o = .d (.str a) ∧ we env M1 fun r M2 => ∃ (x : D), r.dat M2 = some x ∧ ∃ ys : List Str, x.items = some (ys.map .str) ∧ (ys.map (·.length)).sum + ys.length * a.length ≤ 16777216 ∧ Q (.d (.str (Txt.join a ys))) M2
theorem qe_join {o : Expr} {wo : WE} (ho : QE X o wo) (he : QE X e we) (hs : starEach [e] X.env = [(false, eval e X.env)] := by rfl) (hbase : attributeBase o "join" X.env (eval o X.env) = eval o X.env := by rfl) (hline : (apos.endLine == pos.line) = true := by rfl) :
    QE X (.Call (.Attribute o "join" apos) [e] [] pos) (wJoin wo we) := by
  obtain ⟨to, po, do_⟩ := ho
  obtain ⟨te, pe, de⟩ := he
  refine ⟨_, pe_join po pe hs hbase hline, fun env M Q hw S A σ H R st en k => ?_⟩
  refine do_ env M _ hw S A σ H _ st en fun v H1 o1 M1 A1 p1 s1 q1 ⟨a, e1, hw1⟩ => ?_
  subst e1
  cases q1
  refine ⟨⟨a, rfl⟩, ?_⟩
  refine de env M1 _ hw1 S A1 σ H1 _ s1 (en.mono p1) fun u H2 r M2 A2 p2 s2 q2 ⟨x, e2, ys, e3, hz, hq⟩ => ?_
  obtain ⟨pp, vs, rfl, h1, h2⟩ := RepF.items off_sub (s2.dat q2 e2) e3
  rw [h2.strs] at h1
  exact ⟨a, pp, ys, rfl, rfl, h1, hz, k _ H2 (.d (.str (Txt.join a ys))) M2 A2 (p1.trans p2) s2 (show V.str _ = V.str _ from rfl) hq⟩
/-! ### x or y, by truth -/
def D.tru : D → Option Bool
  | .non => some false
  | .bl b => some b
  | .int i => some (i != 0)
  | .str y => if y.length ≤ sizeLine then some ((y.length : Int) != 0) else none
  | .tup ds => some (!ds.isEmpty)
  | .lst ds => some (!ds.isEmpty)
  | _ => none
theorem isE {h : Hp} {ds : List D} {vs : List V} (r : Reps K h ds vs) : vs.isEmpty = ds.isEmpty := by
  cases ds with
  | nil => cases r; rfl
  | cons d ds => obtain ⟨v, us, rfl, _⟩ := r; rfl
theorem tru_f {H h : Hp} {x : D} {v : V} {k : Bool} (e : Same h H) (r : RepF K H h x v) (t : x.tru = some k) : TruV K v H k := by
  cases x with
  | tup ds => obtain ⟨a, vs, rfl, h1, h2⟩ := r; cases t; exact .inr (.inl ⟨vs, same_t e h1, by rw [isE h2]⟩)
  | lst ds => obtain ⟨a, vs, rfl, h1, h2⟩ := r; cases t; exact .inl ⟨vs, h1, by rw [isE h2]⟩
  | non => cases r; cases t; rfl
  | bl b => cases r; cases t; rfl
  | int i => cases r; cases t; rfl
  | str y =>
    cases r
    unfold D.tru at t
    simp only at t
    split at t
    · rename_i hz
      cases t
      exact ⟨hz, rfl⟩
    · cases t
  | _ => cases t
def wOrT (wa wb : WE) : WE := fun env M Q => wa env M fun r M1 => ∃ x, r.dat M1 = some x ∧ ∃ k, x.tru = some k ∧ if k = true then Q r M1 else wb env M1 Q
theorem qe_orT {rest : List Expr} (h : QE X a wa) (g : QE X (.BoolOp .Or (b :: rest) pos) wb) : QE X (.BoolOp .Or (a :: b :: rest) pos) (wOrT wa wb) := by
  obtain ⟨ta, pa, da⟩ := h
  obtain ⟨tb, pb, db⟩ := g
  refine ⟨_, pe_orT pa pb, fun env M Q hw S A σ H R st en k => ?_⟩
  refine da env M _ hw S A σ H _ st en fun v H1 r M1 A1 p1 s1 q1 ⟨x, e1, t, e2, hq⟩ => ?_
  refine ⟨t, tru_f off_sub (s1.dat q1 e1) e2, ?_⟩
  cases t with
  | true => exact k v H1 r M1 A1 p1 s1 q1 hq
  | false => exact db env M1 Q hq S A1 σ H1 R s1 (en.mono p1) fun d H2 r M2 A2 p2 s2 q2 hq2 => k d H2 r M2 A2 (p1.trans p2) s2 q2 hq2
/-- a test by truth: a name, a call, a subscript .. -/
def wTruth (we : WE) : WT := fun env M Q => we env M fun r M1 => ∃ x, r.dat M1 = some x ∧ ∃ k, x.tru = some k ∧ Q k M1
theorem qt_truth (h : QE X e we) (he : ∀ whole, isTrue e X.env whole = (do let v ← whole; standAt e.pos; holding [v] (truthy v)) := by intro _; rfl) : QT X e (wTruth we) := by
  obtain ⟨te, pe, de⟩ := h
  refine ⟨_, pt_truth pe he, fun env M Q hw S A σ H R st en k => ?_⟩
  refine de env M _ hw S A σ H _ st en fun v H1 r M1 A1 p1 s1 q1 ⟨x, e1, t, e2, hq⟩ => ?_
  exact ⟨t, tru_f off_sub (s1.dat q1 e1) e2, k t H1 M1 A1 p1 s1 hq⟩
end
end Dw
set_option Elab.async false
set_option linter.all false
set_option maxRecDepth 100000
set_option maxHeartbeats 4000000
/-! DwL: the readings evaluated: small equations; loops by invariants. -/
namespace Dw
open PySem PySem.Spec PyProof.Rows L2
section
variable {i j : Int} {a b : List D} {x y : Str} {p q : Bool} {d : D} {k n : Nat} {M : Mem} {rs : List Rv}
theorem dat_d : (Rv.d d).dat M = some d := rfl
theorem dat_o {ds : List D} (h : M[k]? = some (.lst ds)) : (Rv.o k).dat M = some (.lst ds) := by simp [Rv.dat, h]
theorem dat_o0 {ds : List D} : (Rv.o 0).dat (.lst ds :: M) = some (.lst ds) := rfl
theorem dat_o1 {m : MO} {ds : List D} : (Rv.o 1).dat (m :: .lst ds :: M) = some (.lst ds) := rfl
theorem dat_o2 {m m' : MO} {ds : List D} : (Rv.o 2).dat (m :: m' :: .lst ds :: M) = some (.lst ds) := rfl
theorem dAdd_i : dAdd (.int i) (.int j) = some (.int (i + j)) := rfl
theorem dAdd_s : dAdd (.str x) (.str y) = if x.length + y.length ≤ sizeLine then some (.str (x ++ y)) else none := rfl
theorem dAdd_t : dAdd (.tup a) (.tup b) = if a.length + b.length ≤ sizeLine then some (.tup (a ++ b)) else none := rfl
theorem dAdd_l : dAdd (.lst a) (.lst b) = if a.length + b.length ≤ sizeLine then some (.lst (a ++ b)) else none := rfl
theorem dI0_i {g : Int → Int → D} : dI0 g (.int i) (.int j) = some (g i j) := rfl
theorem dMul_i : dMul (.int i) (.int j) = if CMul i j then some (.int (i * j)) else none := rfl
theorem dMul_t : dMul (.tup a) (.int i) = if a ≠ [] ∧ 2 ≤ i ∧ i ≤ 1000 ∧ a.length ≤ 1000 then some (.tup (List.replicate i.toNat a).flatten) else none := by
  show (dRepT (.tup a) (.int i)).or none = _
  rw [Option.or_none]; rfl
theorem dMul_s : dMul (.str x) (.int i) = if x.length ≤ 1000 ∧ -1000 ≤ i ∧ i ≤ 1000 then some (.str (strRep x i)) else none := rfl
theorem dMod_i : dMod (.int i) (.int j) = if 0 < j then some (.int (i % j)) else none := by
  show (if decide (0 < j) = true then _ else _) = _
  by_cases h : 0 < j <;> simp [h]
theorem dFdiv_i : dFdiv (.int i) (.int j) = if 0 < j ∧ j < 1073741824 then some (.int (i / j)) else none := by
  show (if decide (CDiv i j) = true then _ else _) = _
  unfold CDiv
  by_cases h : 0 < j ∧ j < 1073741824 <;> simp [h]
theorem dPow_i : dPow (.int i) (.int j) = if 0 ≤ j ∧ j ≤ 1000000 ∧ i.natAbs < 2 ^ 64 then some (.int (i ^ j.toNat)) else none := by
  show (if decide (CPow i j) = true then _ else _) = _
  unfold CPow
  by_cases h : 0 ≤ j ∧ j ≤ 1000000 ∧ i.natAbs < 2 ^ 64 <;> simp [h]
theorem dLt_i : dLt (.int i) (.int j) = some (.bl (decide (i < j))) := rfl
theorem dLe_i : dLe (.int i) (.int j) = some (.bl (decide (i ≤ j))) := rfl
theorem dGt_i : dGt (.int i) (.int j) = some (.bl (decide (j < i))) := rfl
theorem dGe_i : dGe (.int i) (.int j) = some (.bl (decide (j ≤ i))) := rfl
theorem dLt_s : dLt (.str x) (.str y) = some (.bl (decide (x.cps.toList < y.cps.toList))) := rfl
theorem dLe_s : dLe (.str x) (.str y) = some (.bl (!decide (y.cps.toList < x.cps.toList))) := rfl
theorem dGt_s : dGt (.str x) (.str y) = some (.bl (decide (y.cps.toList < x.cps.toList))) := rfl
theorem dGe_s : dGe (.str x) (.str y) = some (.bl (!decide (x.cps.toList < y.cps.toList))) := rfl
theorem dEq_i : dEq (.int i) (.int j) = some (.bl (decide (i = j))) := rfl
theorem dEq_s : dEq (.str x) (.str y) = some (.bl (decide (x = y))) := rfl
theorem dEq_b : dEq (.bl p) (.bl q) = some (.bl (decide (p = q))) := rfl
theorem dEq_is : dEq (.int i) (.str y) = some (.bl false) := rfl
theorem dEq_si : dEq (.str x) (.int j) = some (.bl false) := rfl
theorem dEq_ni : dEq .non (.int j) = some (.bl false) := rfl
theorem dEq_in : dEq (.int j) .non = some (.bl false) := rfl
theorem dEq_sn : dEq (.str x) .non = some (.bl false) := rfl
theorem dEq_ns : dEq .non (.str x) = some (.bl false) := rfl
theorem dNe_i : dNe (.int i) (.int j) = some (.bl (!decide (i = j))) := rfl
theorem dNe_s : dNe (.str x) (.str y) = some (.bl (!decide (x = y))) := rfl
theorem dNe_b : dNe (.bl p) (.bl q) = some (.bl (!decide (p = q))) := rfl
theorem dNe_is : dNe (.int i) (.str y) = some (.bl true) := rfl
theorem dNe_si : dNe (.str x) (.int j) = some (.bl true) := rfl
theorem dNe_ni : dNe .non (.int j) = some (.bl true) := rfl
theorem dNe_in : dNe (.int j) .non = some (.bl true) := rfl
theorem dEq_ok {u v : D} (hf : dEqF u v = none) (hu : u.ok = true) (hv : v.ok = true) : dEq u v = some (.bl (u.eqb v)) := by
  unfold dEq dEqD; rw [hf, hu, hv]; rfl
theorem dNe_ok {u v : D} (hf : dEqF u v = none) (hu : u.ok = true) (hv : v.ok = true) : dNe u v = some (.bl (!u.eqb v)) := by
  unfold dNe; rw [dEq_ok hf hu hv]; rfl
theorem dIs_b : dIs (.bl p) (.bl q) = some (.bl (decide (p = q))) := rfl
theorem dIs_n : dIs d .non = some (.bl d.isN) := by cases d <;> rfl
theorem dIsNot_b : dIsNot (.bl p) (.bl q) = some (.bl (!decide (p = q))) := rfl
theorem dIsNot_n : dIsNot d .non = some (.bl (!d.isN)) := by cases d <;> rfl
theorem dIx_l : dIx (.lst a) (.int i) = atI a i := rfl
theorem dIx_t : dIx (.tup a) (.int i) = atI a i := rfl
theorem dIx_s : dIx (.str x) (.int i) = if x.length ≤ sizeLine then (atI x.cps.toList i).map fun c => .str ⟨#[c]⟩ else none := rfl
theorem dSl_l {lo hi : Option Int} : dSl lo hi (.lst a) = some (.lst (cutD a lo hi)) := rfl
theorem dSl_t {lo hi : Option Int} : dSl lo hi (.tup a) = some (.tup (cutD a lo hi)) := rfl
theorem dSl_s {lo hi : Option Int} : dSl lo hi (.str x) = if x.length ≤ sizeLine then some (.str (cutS x lo hi)) else none := rfl
theorem atI_0 {α : Type} {x : α} {xs : List α} : atI (x :: xs) (0 : Int) = some x := atI_nat (j := 0) rfl
theorem atI_1 {α : Type} {x y : α} {xs : List α} : atI (x :: y :: xs) (1 : Int) = some y := atI_nat (j := 1) rfl
theorem atI_2 {α : Type} {x y z : α} {xs : List α} : atI (x :: y :: z :: xs) (2 : Int) = some z := atI_nat (j := 2) rfl
theorem atI_3 {α : Type} {a b c x : α} {xs : List α} : atI (a :: b :: c :: x :: xs) (3 : Int) = some x := atI_nat (j := 3) rfl
theorem atI_4 {α : Type} {a b c d x : α} {xs : List α} : atI (a :: b :: c :: d :: x :: xs) (4 : Int) = some x := atI_nat (j := 4) rfl
theorem atI_5 {α : Type} {a b c d e x : α} {xs : List α} : atI (a :: b :: c :: d :: e :: x :: xs) (5 : Int) = some x := atI_nat (j := 5) rfl
theorem map_int_inj : ∀ {as bs : List Int}, as.map D.int = bs.map D.int ↔ as = bs
  | [], [] => by simp
  | [], _ :: _ => by simp
  | _ :: _, [] => by simp
  | a :: as, b :: bs => by
    rw [List.map_cons, List.map_cons, List.cons.injEq, List.cons.injEq, D.int.injEq, map_int_inj]
theorem map_str_inj : ∀ {as bs : List Str}, as.map D.str = bs.map D.str ↔ as = bs
  | [], [] => by simp
  | [], _ :: _ => by simp
  | _ :: _, [] => by simp
  | a :: as, b :: bs => by
    rw [List.map_cons, List.map_cons, List.cons.injEq, List.cons.injEq, D.str.injEq, map_str_inj]
theorem atI_of {α : Type} {xs : List α} {i : Int} {v : α} (h0 : 0 ≤ i) (h : xs[i.toNat]? = some v) : atI xs i = some v := by
  have := atI_nat h
  rwa [Int.toNat_of_nonneg h0] at this
theorem atI_map {α β : Type} (f : α → β) (xs : List α) (i : Int) : atI (xs.map f) i = (atI xs i).map f := by
  unfold atI
  rw [List.length_map]
  cases ixN xs.length i <;> simp
theorem fLen_t {z : D} : fLen [.tup a] z ↔ z = .int a.length := Iff.rfl
theorem fLen_l {z : D} : fLen [.lst a] z ↔ z = .int a.length := Iff.rfl
theorem fLen_s {z : D} : fLen [.str x] z ↔ z = .int x.length ∧ x.length ≤ sizeLine := And.comm
theorem fInt_i {z : D} : fInt [.int i] z ↔ z = .int i := Iff.rfl
theorem fInt_b {z : D} : fInt [.bl p] z ↔ z = .int (if p then 1 else 0) := Iff.rfl
theorem fTup_l {z : D} : fTup [.lst a] z ↔ z = .tup a := ⟨fun ⟨_, e, h⟩ => by cases e; exact h, fun h => ⟨a, rfl, h⟩⟩
theorem fTup_t {z : D} : fTup [.tup a] z ↔ z = .tup a := ⟨fun ⟨_, e, h⟩ => by cases e; exact h, fun h => ⟨a, rfl, h⟩⟩
theorem fList_l {z : D} : fList [.lst a] z ↔ z = .lst a := ⟨fun ⟨_, e, h⟩ => by cases e; exact h, fun h => ⟨a, rfl, h⟩⟩
theorem fList_t {z : D} : fList [.tup a] z ↔ z = .lst a := ⟨fun ⟨_, e, h⟩ => by cases e; exact h, fun h => ⟨a, rfl, h⟩⟩
theorem fMax2_i {z : D} : fMax2 [.int i, .int j] z ↔ z = .int (max i j) := Iff.rfl
theorem fMin2_i {z : D} : fMin2 [.int i, .int j] z ↔ z = .int (min i j) := Iff.rfl
theorem fAbs_i {z : D} : fAbs [.int i] z ↔ z = .int (if i < 0 then -i else i) := Iff.rfl
theorem fAll_of {bs : List Bool} : fAll [.lst (bs.map .bl)] (.bl (bs.all fun b => b)) := ⟨bs, rfl, rfl⟩
theorem fAny_of {bs : List Bool} : fAny [.lst (bs.map .bl)] (.bl (bs.any fun b => b)) := ⟨bs, rfl, rfl⟩
theorem fSum_of {ns : List Int} : fSum [.lst (ns.map .int)] (.int ns.sum) := ⟨ns, rfl, rfl⟩
theorem fIsi_of {n : String} {k : String} (hk : d.kind = some k) (hn : n ∈ isiNames) : fIsi [d, .ty n] (.bl (isiTab k n)) := ⟨hn, k, hk, rfl⟩
theorem fIsi_iff {n : String} {z : D} {k : String} (hk : d.kind = some k) (hn : n ∈ isiNames) : fIsi [d, .ty n] z ↔ z = .bl (isiTab k n) := by
  constructor
  · rintro ⟨_, k', h1, h2⟩
    rw [hk] at h1; cases h1; exact h2
  · rintro rfl; exact ⟨hn, k, hk, rfl⟩
theorem isi_int_int {z : D} : fIsi [.int i, .ty "int"] z ↔ z = .bl true := fIsi_iff (n := "int") (k := "int") rfl (by decide)
theorem isi_int_bool {z : D} : fIsi [.int i, .ty "bool"] z ↔ z = .bl false := fIsi_iff (n := "bool") (k := "int") rfl (by decide)
theorem isi_int_str {z : D} : fIsi [.int i, .ty "str"] z ↔ z = .bl false := fIsi_iff (n := "str") (k := "int") rfl (by decide)
theorem isi_int_tup {z : D} : fIsi [.int i, .ty "tuple"] z ↔ z = .bl false := fIsi_iff (n := "tuple") (k := "int") rfl (by decide)
theorem isi_int_lst {z : D} : fIsi [.int i, .ty "list"] z ↔ z = .bl false := fIsi_iff (n := "list") (k := "int") rfl (by decide)
theorem isi_bl_int {z : D} : fIsi [.bl p, .ty "int"] z ↔ z = .bl true := fIsi_iff (n := "int") (k := "bool") rfl (by decide)
theorem isi_bl_bool {z : D} : fIsi [.bl p, .ty "bool"] z ↔ z = .bl true := fIsi_iff (n := "bool") (k := "bool") rfl (by decide)
theorem isi_bl_str {z : D} : fIsi [.bl p, .ty "str"] z ↔ z = .bl false := fIsi_iff (n := "str") (k := "bool") rfl (by decide)
theorem isi_bl_tup {z : D} : fIsi [.bl p, .ty "tuple"] z ↔ z = .bl false := fIsi_iff (n := "tuple") (k := "bool") rfl (by decide)
theorem isi_str_int {z : D} : fIsi [.str x, .ty "int"] z ↔ z = .bl false := fIsi_iff (n := "int") (k := "str") rfl (by decide)
theorem isi_str_bool {z : D} : fIsi [.str x, .ty "bool"] z ↔ z = .bl false := fIsi_iff (n := "bool") (k := "str") rfl (by decide)
theorem isi_str_str {z : D} : fIsi [.str x, .ty "str"] z ↔ z = .bl true := fIsi_iff (n := "str") (k := "str") rfl (by decide)
theorem isi_str_tup {z : D} : fIsi [.str x, .ty "tuple"] z ↔ z = .bl false := fIsi_iff (n := "tuple") (k := "str") rfl (by decide)
theorem isi_tup_int {z : D} : fIsi [.tup a, .ty "int"] z ↔ z = .bl false := fIsi_iff (n := "int") (k := "tuple") rfl (by decide)
theorem isi_tup_bool {z : D} : fIsi [.tup a, .ty "bool"] z ↔ z = .bl false := fIsi_iff (n := "bool") (k := "tuple") rfl (by decide)
theorem isi_tup_str {z : D} : fIsi [.tup a, .ty "str"] z ↔ z = .bl false := fIsi_iff (n := "str") (k := "tuple") rfl (by decide)
theorem isi_tup_tup {z : D} : fIsi [.tup a, .ty "tuple"] z ↔ z = .bl true := fIsi_iff (n := "tuple") (k := "tuple") rfl (by decide)
theorem isi_lst_int {z : D} : fIsi [.lst a, .ty "int"] z ↔ z = .bl false := fIsi_iff (n := "int") (k := "list") rfl (by decide)
theorem isi_lst_bool {z : D} : fIsi [.lst a, .ty "bool"] z ↔ z = .bl false := fIsi_iff (n := "bool") (k := "list") rfl (by decide)
theorem isi_lst_str {z : D} : fIsi [.lst a, .ty "str"] z ↔ z = .bl false := fIsi_iff (n := "str") (k := "list") rfl (by decide)
theorem isi_lst_tup {z : D} : fIsi [.lst a, .ty "tuple"] z ↔ z = .bl false := fIsi_iff (n := "tuple") (k := "list") rfl (by decide)
theorem isi_lst_lst {z : D} : fIsi [.lst a, .ty "list"] z ↔ z = .bl true := fIsi_iff (n := "list") (k := "list") rfl (by decide)
theorem isi_non_int {z : D} : fIsi [.non, .ty "int"] z ↔ z = .bl false := fIsi_iff (n := "int") (k := "NoneType") rfl (by decide)
theorem isi_non_bool {z : D} : fIsi [.non, .ty "bool"] z ↔ z = .bl false := fIsi_iff (n := "bool") (k := "NoneType") rfl (by decide)
theorem isi_non_str {z : D} : fIsi [.non, .ty "str"] z ↔ z = .bl false := fIsi_iff (n := "str") (k := "NoneType") rfl (by decide)
theorem isi_non_tup {z : D} : fIsi [.non, .ty "tuple"] z ↔ z = .bl false := fIsi_iff (n := "tuple") (k := "NoneType") rfl (by decide)
theorem items_t : (D.tup a).items = some a := rfl
theorem items_l : (D.lst a).items = some a := rfl
theorem ds_nil : ds? [] = some [] := rfl
theorem ds_cons : ds? (.d d :: rs) = (ds? rs).map (d :: ·) := rfl
theorem dats_nil : dats M [] = some [] := rfl
theorem dats_cons {r : Rv} (h : r.dat M = some d) : dats M (r :: rs) = (dats M rs).map (d :: ·) := by
  show (match r.dat M, dats M rs with
    | some d, some ds => some (d :: ds)
    | _, _ => none) = _
  rw [h]
  cases dats M rs <;> rfl
theorem dats_d : dats M (.d d :: rs) = (dats M rs).map (d :: ·) := dats_cons rfl
theorem toC_nil : toC k [] = some [] := rfl
theorem toC_d : toC k (.d d :: rs) = (toC k rs).map (.d d :: ·) := rfl
theorem toC_o : toC k (.o k :: rs) = (toC k rs).map (.o 0 :: ·) := by
  show (if k = k then (toC k rs).map (.o 0 :: ·) else none) = _
  rw [if_pos rfl]
theorem shf_d : shf k (.d d) = .d d := rfl
theorem bck_d : bck k n (.d d) = .d d := rfl
theorem frz_d {ds : List D} : frzR k ds (.d d) = .d d := rfl
theorem frz_o0 {ds : List D} : frzR 0 ds (.o 0) = .d (.lst ds) := rfl
theorem frz_o1 {ds : List D} : frzR 1 ds (.o 1) = .d (.lst ds) := rfl
theorem frz_o10 {ds : List D} : frzR 1 ds (.o 0) = .o 0 := rfl
theorem tru_l : D.tru (.lst a) = some (!a.isEmpty) := rfl
theorem tru_t : D.tru (.tup a) = some (!a.isEmpty) := rfl
theorem tru_b : D.tru (.bl p) = some p := rfl
theorem tru_i : D.tru (.int i) = some (i != 0) := rfl
theorem tru_n : D.tru .non = some false := rfl
theorem retR_o {R : Rv → Mem → Prop} {k : Nat} : retR n R (.o k) M = if k < n then R (.o k) (M.take n) else ∃ mo, M[k]? = some mo ∧ R (.o n) (M.take n ++ [mo]) := rfl
theorem retR_d {R : Rv → Mem → Prop} : retR n R (.d d) M = R (.d d) (M.take n) := rfl
theorem sz {n : Nat} (h : n ≤ 10000) : n ≤ sizeLine := Nat.le_trans h (by rw [sizeLine_eq]; decide)
theorem sz' {n : Nat} (h : n ≤ 10000) : n < sizeLine := Nat.lt_of_le_of_lt h (by rw [sizeLine_eq]; decide)
theorem cut_take {α : Type} (xs : List α) (k : Nat) : cutD xs none (some (k : Int)) = xs.take k := by
  unfold cutD
  rw [HT.sIx_none, HT.sIx_nat, List.drop_zero, Nat.sub_zero]
  by_cases h : k ≤ xs.length
  · rw [Nat.min_eq_left h]
  · rw [Nat.min_eq_right (by omega), List.take_length, List.take_of_length_le (by omega)]
theorem cut_drop {α : Type} (xs : List α) (k : Nat) : cutD xs (some (k : Int)) none = xs.drop k := by
  unfold cutD
  rw [HT.sIx_none, HT.sIx_nat]
  by_cases h : k ≤ xs.length
  · rw [Nat.min_eq_left h, List.take_of_length_le (by rw [List.length_drop]; omega)]
  · rw [Nat.min_eq_right (by omega), Nat.sub_self, List.take_zero, List.drop_of_length_le (by omega)]
theorem cut_last {α : Type} (xs : List α) : cutD xs none (some (-1)) = xs.dropLast := by
  unfold cutD
  have e : HT.sIx xs.length xs.length (some (-1)) = xs.length - 1 := by
    show (if (-1 : Int) < 0 then ((-1 : Int) + (xs.length : Int)).toNat else min (-1 : Int).toNat xs.length) = _
    rw [if_pos (by decide)]; omega
  rw [HT.sIx_none, e, List.drop_zero, Nat.sub_zero, List.dropLast_eq_take]
theorem cut_map {α β : Type} (f : α → β) (xs : List α) (lo hi : Option Int) : cutD (xs.map f) lo hi = (cutD xs lo hi).map f := by
  unfold cutD
  rw [List.length_map, List.map_take, List.map_drop]
theorem fAll_map {α : Type} {l : List α} {g : α → Bool} : fAll [.lst (l.map fun x => .bl (g x))] (.bl (l.all g)) := by
  refine ⟨l.map g, by rw [List.map_map]; rfl, ?_⟩
  rw [List.all_map]; rfl
theorem fAny_map {α : Type} {l : List α} {g : α → Bool} : fAny [.lst (l.map fun x => .bl (g x))] (.bl (l.any g)) := by
  refine ⟨l.map g, by rw [List.map_map]; rfl, ?_⟩
  rw [List.any_map]; rfl
theorem CMul_iff {i j : Int} : CMul i j ↔ (-(2 ^ 64) < i ∧ i < 2 ^ 64) ∨ (-(2 ^ 64) < j ∧ j < 2 ^ 64) := Iff.rfl
theorem ixN_def (n : Nat) (i : Int) : ixN n i = if 0 ≤ i then (if i < n then some i.toNat else none) else if -(n : Int) ≤ i then some (i + n).toNat else none := rfl
theorem atI_mem {α : Type} {xs : List α} {i : Int} {v : α} (h : atI xs i = some v) : v ∈ xs := by
  obtain ⟨j, _, e, _⟩ := atI_get h
  exact List.mem_of_getElem? e
theorem atI_in {α : Type} {xs : List α} {i : Int} (h0 : 0 ≤ i) (h : i < xs.length) : ∃ v, atI xs i = some v := by
  have hj : i.toNat < xs.length := by omega
  exact ⟨xs[i.toNat], atI_of h0 (List.getElem?_eq_getElem hj)⟩
theorem rng_len (lo : Int) (n : Nat) : (rngD lo n).length = n := rngD_len
/-! ### order, equality of ints -/
theorem py_ints : ∀ ns : List Int, D.pys (ns.map .int) = some (ns.map .int)
  | [] => rfl
  | n :: ns => by simp only [List.map_cons, D.pys, D.py, py_ints ns]
theorem can_ints : ∀ ns : List Int, PyData.canLayAll0 (ns.map .int) = true
  | [] => by simp [PyData.canLayAll0]
  | n :: ns => by simp [PyData.canLayAll0, PyData.canLay0, can_ints ns]
theorem dep_ints : ∀ ns : List Int, PyData.depthAll (ns.map .int) ≤ 1
  | [] => by simp [PyData.depthAll]
  | n :: ns => by
    have := dep_ints ns
    simp only [List.map_cons, PyData.depthAll, PyData.depth]
    omega
theorem ok_ints (ns : List Int) : (D.tup (ns.map .int)).ok = true := by
  have h := dep_ints ns
  simp only [D.ok, D.py, py_ints, Option.map_some, SeqAt.shaped, PyData.canLay0, can_ints, Bool.true_and, PyData.depth]
  exact decide_eq_true (by omega)
theorem okL_ints (ns : List Int) : (D.lst (ns.map .int)).ok = true := by
  have h := dep_ints ns
  simp only [D.ok, D.py, py_ints, Option.map_some, SeqAt.shaped, PyData.canLay0, can_ints, Bool.true_and, PyData.depth]
  exact decide_eq_true (by omega)
theorem eqv_ints : ∀ ns ms : List Int, PyData.eqvAll (ns.map .int) (ms.map .int) = decide (ns = ms)
  | [], [] => by simp [PyData.eqvAll]
  | [], m :: ms => by simp [PyData.eqvAll]
  | n :: ns, [] => by simp [PyData.eqvAll]
  | n :: ns, m :: ms => by
    simp only [List.map_cons, PyData.eqvAll, PyData.eqv, eqv_ints ns ms]
    by_cases h : n = m <;> by_cases h2 : ns = ms <;> simp [h, h2]
theorem dEq_ti (ns ms : List Int) : dEq (.tup (ns.map .int)) (.tup (ms.map .int)) = some (.bl (decide (ns = ms))) := by
  rw [dEq_ok rfl (ok_ints _) (ok_ints _)]
  simp only [D.eqb, D.py, py_ints, Option.map_some, PyData.eqv, eqv_ints]
theorem dEq_li (ns ms : List Int) : dEq (.lst (ns.map .int)) (.lst (ms.map .int)) = some (.bl (decide (ns = ms))) := by
  rw [dEq_ok rfl (okL_ints _) (okL_ints _)]
  simp only [D.eqb, D.py, py_ints, Option.map_some, PyData.eqv, eqv_ints]
theorem fSorted_ints {x : D} {ns : List Int} (hx : x.items = some (ns.map .int)) : fSorted [x] (.lst ((ns.mergeSort fun a b => decide (a ≤ b)).map .int)) := by
  refine ⟨_, _, hx, py_ints ns, ⟨fun d hd d' hd' => ?_, .inr fun d hd => ?_, fun d hd => ?_⟩, ?_⟩
  · obtain ⟨m, _, rfl⟩ := List.mem_map.mp hd
    obtain ⟨m', _, rfl⟩ := List.mem_map.mp hd'
    simp [PySem.W.alike]
  · obtain ⟨m, _, rfl⟩ := List.mem_map.mp hd
    exact ⟨by simp, by simp⟩
  · obtain ⟨m, _, rfl⟩ := List.mem_map.mp hd
    simp [PyData.depth]
  · rw [List.map_mergeSort (f := D.int) (s := dLeB)]
    intro m hm m' hm'
    unfold dLeB
    rw [show (PySem.W.dataLe false D.key (D.int m) (D.int m')) = PySem.W.dataLe false (fun b : Int => PyData.int b) m m' from rfl, PySem.W.dataLe_int (fun b : Int => b)]
end
theorem u64 {k : Nat} {A : Around} (hr : Room k A) : A.units + 64 < cLine := hr.units
theorem u70 {k : Nat} {A : Around} (hr : Room k A) : A.units + 70 < cLine := by have := hr.un; omega
/-! ### loops -/
theorem for_nil {wg : WG} {wb : WS} {n : Nat} {E : EndsD} {env : Env'} {M : Mem} (h : E.nx env M) : wForL wg wb n [] E env M := h
theorem for_cons {wg : WG} {wb : WS} {n : Nat} {d : D} {ds : List D} {E : EndsD} {env : Env'} {M : Mem}
    (h : wg (.d d) env M fun env1 M1 => wb ⟨fun e m => wForL wg wb n ds E (cutE n e) (m.take n), E.rt, E.nx, fun e m => wForL wg wb n ds E (cutE n e) (m.take n)⟩ env1 M1) : wForL wg wb n (d :: ds) E env M :=
  ⟨fun e m => wForL wg wb n ds E e m, fun _ _ q => q, h⟩
/-- a loop by an invariant over the turns done -/
theorem for_inv {wg : WG} {wb : WS} {n : Nat} {E : EndsD} (I : Nat → Env' → Mem → Prop) : ∀ (ds : List D) (k : Nat) {env : Env'} {M : Mem}, I k env M →
    (∀ (i : Nat) (d : D) (env : Env') (M : Mem), ds[i]? = some d → I (k + i) env M → wg (.d d) env M fun env1 M1 => wb ⟨fun e m => I (k + i + 1) (cutE n e) (m.take n), E.rt, E.nx, fun e m => I (k + i + 1) (cutE n e) (m.take n)⟩ env1 M1) →
    (∀ env M, I (k + ds.length) env M → E.nx env M) → wForL wg wb n ds E env M
  | [], k, env, M, h0, hs, hd => hd env M h0
  | d :: ds, k, env, M, h0, hs, hd => ⟨I (k + 1), fun e m h => for_inv I ds (k + 1) h (fun i d env M hd hi => by
      have := hs (i + 1) d env M (by simpa using hd) (by rw [show k + (i + 1) = k + 1 + i by omega]; exact hi)
      rw [show k + (i + 1) + 1 = k + 1 + i + 1 by omega] at this
      exact this) (fun env M h => hd env M (by rw [List.length_cons, show k + (ds.length + 1) = k + 1 + ds.length by omega]; exact h)), hs 0 d env M rfl h0⟩
theorem for_0 {wg : WG} {wb : WS} {n : Nat} {E : EndsD} {ds : List D} {env : Env'} {M : Mem} (I : Nat → Env' → Mem → Prop) (h0 : I 0 env M)
    (hs : ∀ (i : Nat) (d : D) (env : Env') (M : Mem), ds[i]? = some d → I i env M → wg (.d d) env M fun env1 M1 => wb ⟨fun e m => I (i + 1) (cutE n e) (m.take n), E.rt, E.nx, fun e m => I (i + 1) (cutE n e) (m.take n)⟩ env1 M1)
    (hd : ∀ env M, I ds.length env M → E.nx env M) : wForL wg wb n ds E env M :=
  for_inv I ds 0 h0 (fun i d env M e h => by rw [Nat.zero_add] at h ⊢; exact hs i d env M e h) fun env M h => hd env M (by rw [Nat.zero_add] at h; exact h)
/-- a while by an invariant and a measure -/
theorem whl {wt : WT} {wb : WS} {E : EndsD} {env : Env'} {M : Mem} (I : Nat → Env' → Mem → Prop) (m0 : Nat) (h0 : I m0 env M)
    (hs : ∀ (m : Nat) (env : Env') (M' : Mem), I m env M' → ∃ N : Env' → Mem → Prop, (∀ e m', N e m' → ∃ j, j < m ∧ I j e m') ∧ wt env M' fun b M1 => if b = true then wb ⟨fun e m' => N (cutE M.length e) (m'.take M.length), E.rt, E.nx, fun e m' => N (cutE M.length e) (m'.take M.length)⟩ env M1 else E.nx env M1) : sWhile wt wb E env M := by
  have go : ∀ (k : Nat) (m : Nat) (env : Env') (M' : Mem), m < k → I m env M' → wWhileN wt wb M.length k E env M' := by
    intro k
    induction k with
    | zero => intro m env M' h _; omega
    | succ k ih =>
      intro m env M' h hi
      obtain ⟨N, hN, q⟩ := hs m env M' hi
      exact ⟨N, fun e m' hn => by
        obtain ⟨j, hj, hI⟩ := hN e m' hn
        exact ih j e m' (by omega) hI, q⟩
  exact ⟨m0 + 1, go (m0 + 1) m0 env M (Nat.lt_succ_self _) h0⟩
/-! ### comprehensions -/
/-- by an invariant over the items done, what may change, the list so far -/
theorem lc_inv {wg : WG} {wt : WT} {we : WE} {env : Env'} {Q : List D → Mem → Prop} (I : Nat → Mem → List D → Prop) : ∀ (ds : List D) (k : Nat) {M : Mem} {acc : List D}, I k M acc →
    (∀ (i : Nat) (d : D) (M : Mem) (acc : List D), ds[i]? = some d → I (k + i) M acc → wg (.d d) env M fun env1 M1 => wt env1 M1 fun b M2 => if b = true then we env1 M2 fun y M3 => ∃ z, y = .d z ∧ I (k + i + 1) M3 (acc ++ [z]) else I (k + i + 1) M2 acc) →
    (∀ M acc, I (k + ds.length) M acc → Q acc M) → wLcL wg wt we env ds M acc Q
  | [], k, M, acc, h0, hs, hd => hd M acc h0
  | d :: ds, k, M, acc, h0, hs, hd => ⟨I (k + 1), fun m a h => lc_inv I ds (k + 1) h (fun i d M acc hd hi => by
      have := hs (i + 1) d M acc (by simpa using hd) (by rw [show k + (i + 1) = k + 1 + i by omega]; exact hi)
      rw [show k + (i + 1) + 1 = k + 1 + i + 1 by omega] at this
      exact this) (fun M acc h => hd M acc (by rw [List.length_cons, show k + (ds.length + 1) = k + 1 + ds.length by omega]; exact h)), hs 0 d M acc rfl h0⟩
/-- where nothing changes: filter and map -/
theorem lc_map {α : Type} {wg : WG} {wt : WT} {we : WE} {env : Env'} {Q : List D → Mem → Prop} (c : α → D) (p : α → Bool) (f : α → D) (xs : List α) {M : Mem}
    (hs : ∀ x ∈ xs, ∀ (G : Mem → List D → Prop) (acc : List D), (p x = true → G M (acc ++ [f x])) → (p x = false → G M acc) → wg (.d (c x)) env M fun env1 M1 => wt env1 M1 fun b M2 => if b = true then we env1 M2 fun y M3 => ∃ z, y = .d z ∧ G M3 (acc ++ [z]) else G M2 acc)
    (hd : Q ((xs.filter p).map f) M) : wLcL wg wt we env (xs.map c) M [] Q := by
  refine lc_inv (fun i M' acc => M' = M ∧ acc = ((xs.take i).filter p).map f) (xs.map c) 0 ⟨rfl, by simp⟩ (fun i d M' acc e h => ?_) (fun M' acc h => ?_)
  · obtain ⟨rfl, rfl⟩ := h
    rw [Nat.zero_add]
    rw [List.getElem?_map] at e
    cases hx : xs[i]? with
    | none => rw [hx] at e; cases e
    | some x =>
      rw [hx] at e
      cases e
      have tk : xs.take (i + 1) = xs.take i ++ [x] := by rw [List.take_add_one, hx]; rfl
      refine hs x (List.mem_of_getElem? hx) (fun M' acc => M' = _ ∧ acc = ((xs.take (i + 1)).filter p).map f) _ (fun hp => ⟨rfl, ?_⟩) (fun hp => ⟨rfl, ?_⟩)
      · rw [tk, List.filter_append, List.map_append]; simp [hp]
      · rw [tk, List.filter_append, List.map_append]; simp [hp]
  · obtain ⟨rfl, rfl⟩ := h
    rw [Nat.zero_add, List.length_map, List.take_length]
    exact hd
/-- the same without a test -/
theorem lc_map' {α : Type} {wg : WG} {we : WE} {env : Env'} {Q : List D → Mem → Prop} (c : α → D) (f : α → D) (xs : List α) {M : Mem}
    (hs : ∀ x ∈ xs, ∀ G : D → Mem → Prop, G (f x) M → wg (.d (c x)) env M fun env1 M1 => we env1 M1 fun y M3 => ∃ z, y = .d z ∧ G z M3)
    (hd : Q (xs.map f) M) : wLcL wg wYes we env (xs.map c) M [] Q := by
  refine lc_map c (fun _ => true) f xs (fun x hx G acc h1 _ => ?_) ?_
  · simp only [wYes, if_true]
    exact hs x hx (fun z m => G m (acc ++ [z])) (h1 rfl)
  · rw [List.filter_eq_self.mpr (fun _ _ => rfl)]; exact hd
theorem lc_nil {wg : WG} {wt : WT} {we : WE} {env : Env'} {Q : List D → Mem → Prop} {M : Mem} {acc : List D} (h : Q acc M) : wLcL wg wt we env [] M acc Q := h
theorem lc_cons {wg : WG} {wt : WT} {we : WE} {env : Env'} {Q : List D → Mem → Prop} {M : Mem} {acc : List D} {d : D} {ds : List D}
    (h : wg (.d d) env M fun env1 M1 => wt env1 M1 fun b M2 => if b = true then we env1 M2 fun y M3 => ∃ z, y = .d z ∧ wLcL wg wt we env ds M3 (acc ++ [z]) Q else wLcL wg wt we env ds M2 acc Q) : wLcL wg wt we env (d :: ds) M acc Q :=
  ⟨fun m a => wLcL wg wt we env ds m a Q, fun _ _ h => h, h⟩
end Dw
set_option Elab.async false
set_option linter.all false
set_option maxRecDepth 100000
set_option maxHeartbeats 4000000
namespace Lk00
open PySem PySem.Spec PyProof.Rows L2 Dw
def top (i : Nat) : Stmt := PySem.Challenge.pw_likethings_k00_things.main.body.getD i (.Pass ⟨0, 0, 0, 0⟩)
abbrev s_is_number : Stmt := top 3
theorem sc_is_number : FnScope ["thing"] ["thing"] (defScope s_is_number) := ⟨rfl, rfl, rfl, by decide +kernel, rfl, by decide +kernel, by decide +kernel⟩
abbrev s_is_thing : Stmt := top 4
theorem sc_is_thing : FnScope ["thing"] ["thing"] (defScope s_is_thing) := ⟨rfl, rfl, rfl, by decide +kernel, rfl, by decide +kernel, by decide +kernel⟩
abbrev s_is_told_number : Stmt := top 5
theorem sc_is_told_number : FnScope ["thing"] ["thing"] (defScope s_is_told_number) := ⟨rfl, rfl, rfl, by decide +kernel, rfl, by decide +kernel, by decide +kernel⟩
abbrev s_is_bin : Stmt := top 6
theorem sc_is_bin : FnScope ["thing", "sign"] ["thing"] (defScope s_is_bin) := ⟨rfl, rfl, rfl, by decide +kernel, rfl, by decide +kernel, by decide +kernel⟩
abbrev s_is_open_name : Stmt := top 7
theorem sc_is_open_name : FnScope ["thing", "sign"] ["thing"] (defScope s_is_open_name) := ⟨rfl, rfl, rfl, by decide +kernel, rfl, by decide +kernel, by decide +kernel⟩
abbrev s_is_rising : Stmt := top 8
theorem sc_is_rising : FnScope ["things", "one", "other"] ["things"] (defScope s_is_rising) := ⟨rfl, rfl, rfl, by decide +kernel, rfl, by decide +kernel, by decide +kernel⟩
abbrev s_at_most : Stmt := top 9
theorem sc_at_most : FnScope ["one", "other"] ["one", "other"] (defScope s_at_most) := ⟨rfl, rfl, rfl, by decide +kernel, rfl, by decide +kernel, by decide +kernel⟩
abbrev s_least_of : Stmt := top 10
theorem sc_least_of : FnScope ["things"] ["things"] (defScope s_least_of) := ⟨rfl, rfl, rfl, by decide +kernel, rfl, by decide +kernel, by decide +kernel⟩
abbrev s_put_in : Stmt := top 11
theorem sc_put_in : FnScope ["things", "one", "at"] ["things", "one"] (defScope s_put_in) := ⟨rfl, rfl, rfl, by decide +kernel, rfl, by decide +kernel, by decide +kernel⟩
abbrev s_poured : Stmt := top 12
theorem sc_poured : FnScope ["one", "other"] ["one", "other"] (defScope s_poured) := ⟨rfl, rfl, rfl, by decide +kernel, rfl, by decide +kernel, by decide +kernel⟩
abbrev s__law_tray : Stmt := top 14
theorem sc__law_tray : FnScope ["script", "crumbs", "stirred", "cell", "size", "lap"] ["script"] (defScope s__law_tray) := ⟨rfl, rfl, rfl, by decide +kernel, rfl, by decide +kernel, by decide +kernel⟩
abbrev s__law_pick : Stmt := top 15
theorem sc__law_pick : FnScope ["tray", "many", "turn", "mixed"] ["tray", "many"] (defScope s__law_pick) := ⟨rfl, rfl, rfl, by decide +kernel, rfl, by decide +kernel, by decide +kernel⟩
abbrev s__law_same : Stmt := top 16
theorem sc__law_same : FnScope ["told", "due", "at"] ["told", "due"] (defScope s__law_same) := ⟨rfl, rfl, rfl, by decide +kernel, rfl, by decide +kernel, by decide +kernel⟩
abbrev s__law_thing : Stmt := top 17
theorem sc__law_thing : FnScope ["tray", "way"] ["tray"] (defScope s__law_thing) := ⟨rfl, rfl, rfl, by decide +kernel, rfl, by decide +kernel, by decide +kernel⟩
abbrev s__law_row : Stmt := top 18
theorem sc__law_row : FnScope ["tray", "most", "told", "lap"] ["tray", "most"] (defScope s__law_row) := ⟨rfl, rfl, rfl, by decide +kernel, rfl, by decide +kernel, by decide +kernel⟩
abbrev s__law_put : Stmt := top 19
theorem sc__law_put : FnScope ["row", "one", "ahead", "behind", "thing"] ["row", "one"] (defScope s__law_put) := ⟨rfl, rfl, rfl, by decide +kernel, rfl, by decide +kernel, by decide +kernel⟩
abbrev s__law_word : Stmt := top 20
theorem sc__law_word : FnScope ["tray", "letters", "many", "lap"] ["tray", "letters"] (defScope s__law_word) := ⟨rfl, rfl, rfl, by decide +kernel, rfl, by decide +kernel, by decide +kernel⟩
abbrev s__law_numbers : Stmt := top 21
theorem sc__law_numbers : FnScope ["tray", "lap", "number", "told", "inside", "small", "at", "odd", "thing", "bounds", "beyond", "one"] ["tray"] (defScope s__law_numbers) := ⟨rfl, rfl, rfl, by decide +kernel, rfl, by decide +kernel, by decide +kernel⟩
abbrev s__law_words : Stmt := top 22
theorem sc__law_words : FnScope ["tray", "low", "high", "lap", "one", "other", "told", "at", "sign", "mark", "bent", "right", "odd", "thing"] ["tray"] (defScope s__law_words) := ⟨rfl, rfl, rfl, by decide +kernel, rfl, by decide +kernel, by decide +kernel⟩
abbrev s__law_rows : Stmt := top 23
theorem sc__law_rows : FnScope ["tray", "most", "one", "other", "more", "both", "thing", "told", "due", "at", "least"] ["tray", "most"] (defScope s__law_rows) := ⟨rfl, rfl, rfl, by decide +kernel, rfl, by decide +kernel, by decide +kernel⟩
abbrev s__law_fallen : Stmt := top 24
theorem sc__law_fallen : FnScope ["tray", "row", "at", "greater", "due"] ["tray", "row"] (defScope s__law_fallen) := ⟨rfl, rfl, rfl, by decide +kernel, rfl, by decide +kernel, by decide +kernel⟩
abbrev s__law_pairs : Stmt := top 25
theorem sc__law_pairs : FnScope ["tray", "one", "other", "told", "due", "at"] ["tray"] (defScope s__law_pairs) := ⟨rfl, rfl, rfl, by decide +kernel, rfl, by decide +kernel, by decide +kernel⟩
abbrev s_law : Stmt := top 26
theorem sc_law : FnScope ["script", "tray", "most", "lap", "like"] ["script"] (defScope s_law) := ⟨rfl, rfl, rfl, by decide +kernel, rfl, by decide +kernel, by decide +kernel⟩
/-- what the top has left -/
structure Tx (K : PySem.W.Frag) (mg : Str → Option Value) where
  a_is_number : Addr
  fd_is_number : FuncData
  F_is_number : FunD K "is_number" "is_number" (defArgs s_is_number) (defBody s_is_number) (defScope s_is_number) [] [] a_is_number fd_is_number
  g_is_number : mg "is_number" = some (.ref a_is_number)
  a_is_thing : Addr
  fd_is_thing : FuncData
  F_is_thing : FunD K "is_thing" "is_thing" (defArgs s_is_thing) (defBody s_is_thing) (defScope s_is_thing) [] [] a_is_thing fd_is_thing
  g_is_thing : mg "is_thing" = some (.ref a_is_thing)
  a_is_told_number : Addr
  fd_is_told_number : FuncData
  F_is_told_number : FunD K "is_told_number" "is_told_number" (defArgs s_is_told_number) (defBody s_is_told_number) (defScope s_is_told_number) [] [] a_is_told_number fd_is_told_number
  g_is_told_number : mg "is_told_number" = some (.ref a_is_told_number)
  a_is_bin : Addr
  fd_is_bin : FuncData
  F_is_bin : FunD K "is_bin" "is_bin" (defArgs s_is_bin) (defBody s_is_bin) (defScope s_is_bin) [] [] a_is_bin fd_is_bin
  g_is_bin : mg "is_bin" = some (.ref a_is_bin)
  a_is_open_name : Addr
  fd_is_open_name : FuncData
  F_is_open_name : FunD K "is_open_name" "is_open_name" (defArgs s_is_open_name) (defBody s_is_open_name) (defScope s_is_open_name) [] [] a_is_open_name fd_is_open_name
  g_is_open_name : mg "is_open_name" = some (.ref a_is_open_name)
  a_is_rising : Addr
  fd_is_rising : FuncData
  F_is_rising : FunD K "is_rising" "is_rising" (defArgs s_is_rising) (defBody s_is_rising) (defScope s_is_rising) [] [] a_is_rising fd_is_rising
  g_is_rising : mg "is_rising" = some (.ref a_is_rising)
  a_at_most : Addr
  fd_at_most : FuncData
  F_at_most : FunD K "at_most" "at_most" (defArgs s_at_most) (defBody s_at_most) (defScope s_at_most) [] [] a_at_most fd_at_most
  g_at_most : mg "at_most" = some (.ref a_at_most)
  a_least_of : Addr
  fd_least_of : FuncData
  F_least_of : FunD K "least_of" "least_of" (defArgs s_least_of) (defBody s_least_of) (defScope s_least_of) [] [] a_least_of fd_least_of
  g_least_of : mg "least_of" = some (.ref a_least_of)
  a_put_in : Addr
  fd_put_in : FuncData
  F_put_in : FunD K "put_in" "put_in" (defArgs s_put_in) (defBody s_put_in) (defScope s_put_in) [] [] a_put_in fd_put_in
  g_put_in : mg "put_in" = some (.ref a_put_in)
  a_poured : Addr
  fd_poured : FuncData
  F_poured : FunD K "poured" "poured" (defArgs s_poured) (defBody s_poured) (defScope s_poured) [] [] a_poured fd_poured
  g_poured : mg "poured" = some (.ref a_poured)
  a__law_tray : Addr
  fd__law_tray : FuncData
  F__law_tray : FunD K "_law_tray" "_law_tray" (defArgs s__law_tray) (defBody s__law_tray) (defScope s__law_tray) [] [] a__law_tray fd__law_tray
  g__law_tray : mg "_law_tray" = some (.ref a__law_tray)
  a__law_pick : Addr
  fd__law_pick : FuncData
  F__law_pick : FunD K "_law_pick" "_law_pick" (defArgs s__law_pick) (defBody s__law_pick) (defScope s__law_pick) [] [] a__law_pick fd__law_pick
  g__law_pick : mg "_law_pick" = some (.ref a__law_pick)
  a__law_same : Addr
  fd__law_same : FuncData
  F__law_same : FunD K "_law_same" "_law_same" (defArgs s__law_same) (defBody s__law_same) (defScope s__law_same) [] [] a__law_same fd__law_same
  g__law_same : mg "_law_same" = some (.ref a__law_same)
  a__law_thing : Addr
  fd__law_thing : FuncData
  F__law_thing : FunD K "_law_thing" "_law_thing" (defArgs s__law_thing) (defBody s__law_thing) (defScope s__law_thing) [] [] a__law_thing fd__law_thing
  g__law_thing : mg "_law_thing" = some (.ref a__law_thing)
  a__law_row : Addr
  fd__law_row : FuncData
  F__law_row : FunD K "_law_row" "_law_row" (defArgs s__law_row) (defBody s__law_row) (defScope s__law_row) [] [] a__law_row fd__law_row
  g__law_row : mg "_law_row" = some (.ref a__law_row)
  a__law_put : Addr
  fd__law_put : FuncData
  F__law_put : FunD K "_law_put" "_law_put" (defArgs s__law_put) (defBody s__law_put) (defScope s__law_put) [] [] a__law_put fd__law_put
  g__law_put : mg "_law_put" = some (.ref a__law_put)
  a__law_word : Addr
  fd__law_word : FuncData
  F__law_word : FunD K "_law_word" "_law_word" (defArgs s__law_word) (defBody s__law_word) (defScope s__law_word) [] [] a__law_word fd__law_word
  g__law_word : mg "_law_word" = some (.ref a__law_word)
  a__law_numbers : Addr
  fd__law_numbers : FuncData
  F__law_numbers : FunD K "_law_numbers" "_law_numbers" (defArgs s__law_numbers) (defBody s__law_numbers) (defScope s__law_numbers) [] [] a__law_numbers fd__law_numbers
  g__law_numbers : mg "_law_numbers" = some (.ref a__law_numbers)
  a__law_words : Addr
  fd__law_words : FuncData
  F__law_words : FunD K "_law_words" "_law_words" (defArgs s__law_words) (defBody s__law_words) (defScope s__law_words) [] [] a__law_words fd__law_words
  g__law_words : mg "_law_words" = some (.ref a__law_words)
  a__law_rows : Addr
  fd__law_rows : FuncData
  F__law_rows : FunD K "_law_rows" "_law_rows" (defArgs s__law_rows) (defBody s__law_rows) (defScope s__law_rows) [] [] a__law_rows fd__law_rows
  g__law_rows : mg "_law_rows" = some (.ref a__law_rows)
  a__law_fallen : Addr
  fd__law_fallen : FuncData
  F__law_fallen : FunD K "_law_fallen" "_law_fallen" (defArgs s__law_fallen) (defBody s__law_fallen) (defScope s__law_fallen) [] [] a__law_fallen fd__law_fallen
  g__law_fallen : mg "_law_fallen" = some (.ref a__law_fallen)
  a__law_pairs : Addr
  fd__law_pairs : FuncData
  F__law_pairs : FunD K "_law_pairs" "_law_pairs" (defArgs s__law_pairs) (defBody s__law_pairs) (defScope s__law_pairs) [] [] a__law_pairs fd__law_pairs
  g__law_pairs : mg "_law_pairs" = some (.ref a__law_pairs)
  a_law : Addr
  fd_law : FuncData
  F_law : FunD K "law" "law" (defArgs s_law) (defBody s_law) (defScope s_law) [] [] a_law fd_law
  g_law : mg "law" = some (.ref a_law)
  n_all : mg "all" = none
  n_bool : mg "bool" = none
  n_int : mg "int" = none
  n_isinstance : mg "isinstance" = none
  n_len : mg "len" = none
  n_list : mg "list" = none
  n_min : mg "min" = none
  n_range : mg "range" = none
  n_sorted : mg "sorted" = none
  n_str : mg "str" = none
  n_tuple : mg "tuple" = none
  n_zip : mg "zip" = none
  t_MOST_THING : Tok
  k_MOST_THING : mg "MOST_THING" = some (.int 1000 t_MOST_THING)
  t_MOST_TOLD : Tok
  k_MOST_TOLD : mg "MOST_TOLD" = some (.int 999 t_MOST_TOLD)
section
variable {P : Program} {w : World} {K : PySem.W.Frag} {mg : Str → Option Value} {base : Heap}
theorem b_is_number (T : Tx K mg) : Binds K T.fd_is_number ["thing"] [] := T.F_is_number.bindsN fun _ _ _ _ _ _ us hl => match us, hl with | [_], _ => rfl
theorem b_is_thing (T : Tx K mg) : Binds K T.fd_is_thing ["thing"] [] := T.F_is_thing.bindsN fun _ _ _ _ _ _ us hl => match us, hl with | [_], _ => rfl
theorem b_is_told_number (T : Tx K mg) : Binds K T.fd_is_told_number ["thing"] [] := T.F_is_told_number.bindsN fun _ _ _ _ _ _ us hl => match us, hl with | [_], _ => rfl
theorem b_is_bin (T : Tx K mg) : Binds K T.fd_is_bin ["thing"] [] := T.F_is_bin.bindsN fun _ _ _ _ _ _ us hl => match us, hl with | [_], _ => rfl
theorem b_is_open_name (T : Tx K mg) : Binds K T.fd_is_open_name ["thing"] [] := T.F_is_open_name.bindsN fun _ _ _ _ _ _ us hl => match us, hl with | [_], _ => rfl
theorem b_is_rising (T : Tx K mg) : Binds K T.fd_is_rising ["things"] [] := T.F_is_rising.bindsN fun _ _ _ _ _ _ us hl => match us, hl with | [_], _ => rfl
theorem b_at_most (T : Tx K mg) : Binds K T.fd_at_most ["one", "other"] [] := T.F_at_most.bindsN fun _ _ _ _ _ _ us hl => match us, hl with | [_, _], _ => rfl
theorem b_least_of (T : Tx K mg) : Binds K T.fd_least_of ["things"] [] := T.F_least_of.bindsN fun _ _ _ _ _ _ us hl => match us, hl with | [_], _ => rfl
theorem b_put_in (T : Tx K mg) : Binds K T.fd_put_in ["things", "one"] [] := T.F_put_in.bindsN fun _ _ _ _ _ _ us hl => match us, hl with | [_, _], _ => rfl
theorem b_poured (T : Tx K mg) : Binds K T.fd_poured ["one", "other"] [] := T.F_poured.bindsN fun _ _ _ _ _ _ us hl => match us, hl with | [_, _], _ => rfl
theorem b__law_tray (T : Tx K mg) : Binds K T.fd__law_tray ["script"] [] := T.F__law_tray.bindsN fun _ _ _ _ _ _ us hl => match us, hl with | [_], _ => rfl
theorem b__law_pick (T : Tx K mg) : Binds K T.fd__law_pick ["tray", "many"] [] := T.F__law_pick.bindsN fun _ _ _ _ _ _ us hl => match us, hl with | [_, _], _ => rfl
theorem b__law_same (T : Tx K mg) : Binds K T.fd__law_same ["told", "due"] [] := T.F__law_same.bindsN fun _ _ _ _ _ _ us hl => match us, hl with | [_, _], _ => rfl
theorem b__law_thing (T : Tx K mg) : Binds K T.fd__law_thing ["tray"] [] := T.F__law_thing.bindsN fun _ _ _ _ _ _ us hl => match us, hl with | [_], _ => rfl
theorem b__law_row (T : Tx K mg) : Binds K T.fd__law_row ["tray", "most"] [] := T.F__law_row.bindsN fun _ _ _ _ _ _ us hl => match us, hl with | [_, _], _ => rfl
theorem b__law_put (T : Tx K mg) : Binds K T.fd__law_put ["row", "one"] [] := T.F__law_put.bindsN fun _ _ _ _ _ _ us hl => match us, hl with | [_, _], _ => rfl
theorem b__law_word (T : Tx K mg) : Binds K T.fd__law_word ["tray", "letters"] [] := T.F__law_word.bindsN fun _ _ _ _ _ _ us hl => match us, hl with | [_, _], _ => rfl
theorem b__law_numbers (T : Tx K mg) : Binds K T.fd__law_numbers ["tray"] [] := T.F__law_numbers.bindsN fun _ _ _ _ _ _ us hl => match us, hl with | [_], _ => rfl
theorem b__law_words (T : Tx K mg) : Binds K T.fd__law_words ["tray"] [] := T.F__law_words.bindsN fun _ _ _ _ _ _ us hl => match us, hl with | [_], _ => rfl
theorem b__law_rows (T : Tx K mg) : Binds K T.fd__law_rows ["tray", "most"] [] := T.F__law_rows.bindsN fun _ _ _ _ _ _ us hl => match us, hl with | [_, _], _ => rfl
theorem b__law_fallen (T : Tx K mg) : Binds K T.fd__law_fallen ["tray", "row"] [] := T.F__law_fallen.bindsN fun _ _ _ _ _ _ us hl => match us, hl with | [_, _], _ => rfl
theorem b__law_pairs (T : Tx K mg) : Binds K T.fd__law_pairs ["tray"] [] := T.F__law_pairs.bindsN fun _ _ _ _ _ _ us hl => match us, hl with | [_], _ => rfl
theorem b_law (T : Tx K mg) : Binds K T.fd_law ["script"] [] := T.F_law.bindsN fun _ _ _ _ _ _ us hl => match us, hl with | [_], _ => rfl
theorem kb_is_told_number_0_thing (T : Tx K mg) : KBinds K T.fd_is_told_number ["thing"] ["thing"] (kg 0 [0]) (kg 0 [0]) := kb T.F_is_told_number 0 [0] (by decide) fun _ _ _ _ _ _ us ws h1 h2 => match us, ws, h1, h2 with | [], [_], _, _ => rfl
theorem kb_is_thing_0_thing (T : Tx K mg) : KBinds K T.fd_is_thing ["thing"] ["thing"] (kg 0 [0]) (kg 0 [0]) := kb T.F_is_thing 0 [0] (by decide) fun _ _ _ _ _ _ us ws h1 h2 => match us, ws, h1, h2 with | [], [_], _, _ => rfl
theorem kb_is_bin_0_thing (T : Tx K mg) : KBinds K T.fd_is_bin ["thing"] ["thing"] (kg 0 [0]) (kg 0 [0]) := kb T.F_is_bin 0 [0] (by decide) fun _ _ _ _ _ _ us ws h1 h2 => match us, ws, h1, h2 with | [], [_], _, _ => rfl
theorem kb_is_open_name_0_thing (T : Tx K mg) : KBinds K T.fd_is_open_name ["thing"] ["thing"] (kg 0 [0]) (kg 0 [0]) := kb T.F_is_open_name 0 [0] (by decide) fun _ _ _ _ _ _ us ws h1 h2 => match us, ws, h1, h2 with | [], [_], _, _ => rfl
theorem kb_poured_0_other_one (T : Tx K mg) : KBinds K T.fd_poured ["one", "other"] ["other", "one"] (kg 0 [1, 0]) (kg 0 [1, 0]) := kb T.F_poured 0 [1, 0] (by decide) fun _ _ _ _ _ _ us ws h1 h2 => match us, ws, h1, h2 with | [], [_, _], _, _ => rfl
theorem kb_put_in_0_things_one (T : Tx K mg) : KBinds K T.fd_put_in ["things", "one"] ["things", "one"] (kg 0 [0, 1]) (kg 0 [0, 1]) := kb T.F_put_in 0 [0, 1] (by decide) fun _ _ _ _ _ _ us ws h1 h2 => match us, ws, h1, h2 with | [], [_, _], _, _ => rfl
theorem kb_least_of_0_things (T : Tx K mg) : KBinds K T.fd_least_of ["things"] ["things"] (kg 0 [0]) (kg 0 [0]) := kb T.F_least_of 0 [0] (by decide) fun _ _ _ _ _ _ us ws h1 h2 => match us, ws, h1, h2 with | [], [_], _, _ => rfl
theorem kb_is_rising_0_things (T : Tx K mg) : KBinds K T.fd_is_rising ["things"] ["things"] (kg 0 [0]) (kg 0 [0]) := kb T.F_is_rising 0 [0] (by decide) fun _ _ _ _ _ _ us ws h1 h2 => match us, ws, h1, h2 with | [], [_], _, _ => rfl
theorem kb_at_most_0_one_other (T : Tx K mg) : KBinds K T.fd_at_most ["one", "other"] ["one", "other"] (kg 0 [0, 1]) (kg 0 [0, 1]) := kb T.F_at_most 0 [0, 1] (by decide) fun _ _ _ _ _ _ us ws h1 h2 => match us, ws, h1, h2 with | [], [_, _], _, _ => rfl
theorem kb_at_most_0_other_one (T : Tx K mg) : KBinds K T.fd_at_most ["one", "other"] ["other", "one"] (kg 0 [1, 0]) (kg 0 [1, 0]) := kb T.F_at_most 0 [1, 0] (by decide) fun _ _ _ _ _ _ us ws h1 h2 => match us, ws, h1, h2 with | [], [_, _], _, _ => rfl
end
/-! ### what the functions say -/
def isNum : D → Bool
  | .int _ => true
  | _ => false
def isThing : D → Bool
  | .int i => decide (-1000 ≤ i ∧ i ≤ 1000)
  | _ => false
def isTold : D → Bool
  | .int i => decide (0 ≤ i ∧ i ≤ 999)
  | _ => false
def allIn (lo hi : Nat) (x : Str) : Bool := x.cps.toList.all fun c => decide (lo ≤ c ∧ c ≤ hi)
def isWord (lo hi : Nat) : D → Bool
  | .str x => decide (1 ≤ x.length ∧ x.length ≤ 8) && allIn lo hi x
  | _ => false
def Known (d : D) : Prop := ∃ k, d.kind = some k
def rising : List Int → Bool
  | a :: b :: r => decide (a ≤ b) && rising (b :: r)
  | _ => true
theorem letter_le {lo c : Nat} : (!decide ([c] < [lo])) = decide (lo ≤ c) := by
  rw [Bool.eq_iff_iff]
  simp [List.cons_lt_cons_iff]
theorem one_list (c : Nat) : (⟨#[c]⟩ : Str).cps.toList = [c] := rfl
def oi : Option Int → D
  | none => .non
  | some i => .int i
def atMost : Option Int → Option Int → Bool
  | none, y => y.isNone
  | some _, none => true
  | some x, some y => decide (x ≤ y)
def putIn : List Int → Int → List Int
  | [], x => [x]
  | a :: r, x => if a ≤ x then a :: putIn r x else x :: a :: r
def sortI (ns : List Int) : List Int := ns.mergeSort fun a b => decide (a ≤ b)
theorem zip_pairs : ∀ (as bs : List Int), zipD (as.map .int) (bs.map .int) = (as.zip bs).map fun p => .tup [.int p.1, .int p.2]
  | [], _ => by simp [zipD]
  | _ :: _, [] => by simp [zipD]
  | a :: as, b :: bs => by
    have ih := zip_pairs as bs
    unfold zipD at ih ⊢
    rw [List.map_cons, List.map_cons, List.zipWith_cons_cons, List.zip_cons_cons, List.map_cons, ih]
theorem rising_zip : ∀ ns : List Int, rising ns = (ns.zip ns.tail).all fun p => decide (p.1 ≤ p.2)
  | [] => rfl
  | [_] => rfl
  | a :: b :: r => by
    have ih := rising_zip (b :: r)
    rw [List.tail_cons, List.zip_cons_cons, List.all_cons]
    show (decide (a ≤ b) && rising (b :: r)) = _
    rw [ih]; rfl
theorem putIn_cut : ∀ (ns : List Int) (x : Int) (k : Nat), (∀ y ∈ ns.take k, y ≤ x) → (∀ y, ns[k]? = some y → x < y) → putIn ns x = ns.take k ++ [x] ++ ns.drop k
  | [], x, k, _, _ => by simp [putIn]
  | a :: r, x, 0, _, h => by
    have : x < a := h a rfl
    simp [putIn, show ¬ a ≤ x by omega]
  | a :: r, x, k + 1, h, g => by
    have h1 : a ≤ x := h a (by simp)
    have ih := putIn_cut r x k (fun y hy => h y (by rw [List.take_succ_cons]; exact List.mem_cons_of_mem _ hy)) (fun y hy => g y (by simpa using hy))
    simp [putIn, h1, ih]
theorem joinL_nil : ∀ l : List (List Nat), TL.joinL [] l = l.flatten
  | [] => rfl
  | [p] => by simp [TL.joinL]
  | p :: q :: r => by
    show p ++ ([] ++ TL.joinL [] (q :: r)) = _
    rw [joinL_nil (q :: r)]; simp
theorem join_cps (ys : List Str) : (Txt.join (Str.ofString "") ys).cps.toList = (ys.map fun y => y.cps.toList).flatten := by
  have h := TL.tl_join (Str.ofString "") ys
  have e : TL.tl (Str.ofString "") = [] := rfl
  rw [e, joinL_nil] at h
  rw [TL.join_eq]
  exact h
theorem join_one : ∀ (ys : List Str) (lo hi : Nat), (∀ y ∈ ys, ∃ c, y = ⟨#[c]⟩ ∧ lo ≤ c ∧ c ≤ hi) → ys.length ≤ 1000 → (Txt.join (Str.ofString "") ys).length = ys.length ∧ allIn lo hi (Txt.join (Str.ofString "") ys) = true ∧ (List.map (fun x => x.length) ys).sum + ys.length * (Str.ofString "").length ≤ 16777216 := by
  intro ys lo hi h hl
  have key : ∀ ys : List Str, (∀ y ∈ ys, ∃ c, y = ⟨#[c]⟩ ∧ lo ≤ c ∧ c ≤ hi) → ((ys.map fun y => y.cps.toList).flatten).length = ys.length ∧ (List.map (fun x => x.length) ys).sum = ys.length ∧ ∀ c ∈ (ys.map fun y => y.cps.toList).flatten, lo ≤ c ∧ c ≤ hi := by
    intro ys
    induction ys with
    | nil => intro _; exact ⟨rfl, rfl, by simp⟩
    | cons y ys ih =>
      intro h
      obtain ⟨c, rfl, hc⟩ := h y List.mem_cons_self
      obtain ⟨i1, i2, i3⟩ := ih fun z hz => h z (List.mem_cons_of_mem _ hz)
      refine ⟨?_, ?_, fun d hd => ?_⟩
      · simp only [List.map_cons, List.flatten_cons, List.length_append, i1, List.length_cons, List.length_nil]; omega
      · rw [List.map_cons, List.sum_cons, i2, List.length_cons]
        show 1 + ys.length = _
        omega
      · rw [List.map_cons, List.flatten_cons] at hd
        rcases List.mem_append.mp hd with hd | hd
        · have : d = c := by simpa using hd
          rw [this]; exact hc
        · exact i3 d hd
  obtain ⟨k1, k2, k3⟩ := key ys h
  refine ⟨?_, ?_, ?_⟩
  · show (Txt.join (Str.ofString "") ys).cps.size = _
    rw [← Array.length_toList, join_cps, k1]
  · unfold allIn
    rw [join_cps, List.all_eq_true]
    intro c hc
    exact decide_eq_true (k3 c hc)
  · rw [k2]
    have : (Str.ofString "").length = 0 := rfl
    rw [this]; omega
/-! ### the tray: crumbs, a stirred number, how many draws -/
structure TrayOk (n : Nat) (m : MO) : Prop where
  ex : ∃ (cr : List Int) (st tn : Int), m = .lst [.lst (cr.map .int), .int st, .int tn] ∧ cr ≠ [] ∧ cr.length ≤ 10000 ∧ (∀ c ∈ cr, 0 ≤ c ∧ c < 1000) ∧ 0 ≤ st ∧ st < 11000000 ∧ 0 ≤ tn ∧ tn ≤ n
theorem TrayOk.mono {n k : Nat} {m : MO} (h : TrayOk n m) (e : n ≤ k) : TrayOk k m := by
  obtain ⟨cr, st, tn, h1, h2, h3, h4, h5, h6, h7, h8⟩ := h.ex
  exact ⟨cr, st, tn, h1, h2, h3, h4, h5, h6, h7, by omega⟩
def SameOk (d : D) : Prop := d = .non ∨ (∃ b, d = .bl b) ∨ (∃ i, d = .int i) ∨ ∃ ns : List Int, d = .tup (ns.map .int) ∧ ns.length ≤ 1000
def lput (ns : List Int) (x : Int) : List Int := ns.filter (fun y => decide (y ≤ x)) ++ [x] ++ ns.filter (fun y => decide (x < y))
def InR (i : Int) : Prop := -1000 ≤ i ∧ i ≤ 1000
def Srt (ns : List Int) : Prop := ns.Pairwise (· ≤ ·)
theorem lput_len (ns : List Int) (x : Int) : (lput ns x).length ≤ ns.length + 1 + ns.length := by
  unfold lput
  simp only [List.length_append, List.length_cons, List.length_nil]
  have h1 := List.length_filter_le (fun y => decide (y ≤ x)) ns
  have h2 := List.length_filter_le (fun y => decide (x < y)) ns
  omega
theorem lput_eq : ∀ (ns : List Int) (x : Int), Srt ns → lput ns x = putIn ns x
  | [], x, _ => rfl
  | a :: r, x, h => by
    have h' := List.pairwise_cons.mp h
    have ih := lput_eq r x h'.2
    unfold lput at ih ⊢
    by_cases e : a ≤ x
    · simp only [List.filter_cons, e, decide_true, if_true, show ¬ x < a by omega, decide_false, Bool.false_eq_true, if_false, putIn, List.cons_append]
      rw [← ih]
    · have h1 : r.filter (fun y => decide (y ≤ x)) = [] := List.filter_eq_nil_iff.mpr fun y hy => by
        have := h'.1 y hy
        simp; omega
      have h2 : r.filter (fun y => decide (x < y)) = r := List.filter_eq_self.mpr fun y hy => by
        have := h'.1 y hy
        simp; omega
      simp only [List.filter_cons, e, decide_false, Bool.false_eq_true, if_false, show x < a by omega, decide_true, if_true, putIn, h1, h2, List.nil_append, List.cons_append]
theorem putIn_perm : ∀ (ns : List Int) (x : Int), (putIn ns x).Perm (x :: ns)
  | [], x => .refl _
  | a :: r, x => by
    unfold putIn
    by_cases e : a ≤ x
    · rw [if_pos e]; exact ((putIn_perm r x).cons a).trans (List.Perm.swap x a r)
    · rw [if_neg e]
theorem putIn_len (ns : List Int) (x : Int) : (putIn ns x).length = ns.length + 1 := by
  rw [(putIn_perm ns x).length_eq]; rfl
theorem putIn_srt : ∀ (ns : List Int) (x : Int), Srt ns → Srt (putIn ns x)
  | [], x, _ => List.pairwise_singleton _ _
  | a :: r, x, h => by
    have h' := List.pairwise_cons.mp h
    unfold putIn
    by_cases e : a ≤ x
    · rw [if_pos e]
      refine List.pairwise_cons.mpr ⟨fun y hy => ?_, putIn_srt r x h'.2⟩
      rcases List.mem_cons.mp ((putIn_perm r x).mem_iff.mp hy) with rfl | hy
      · exact e
      · exact h'.1 y hy
    · rw [if_neg e]
      refine List.pairwise_cons.mpr ⟨fun y hy => ?_, h⟩
      rcases List.mem_cons.mp hy with rfl | hy
      · omega
      · have := h'.1 y hy; omega
theorem srt_uniq {as bs : List Int} (h1 : Srt as) (h2 : Srt bs) (p : as.Perm bs) : as = bs :=
  List.Perm.eq_of_pairwise (fun a b _ _ x y => Int.le_antisymm x y) h1 h2 p
theorem sortI_srt (ns : List Int) : Srt (sortI ns) := by
  have := List.pairwise_mergeSort (le := fun a b : Int => decide (a ≤ b)) (by simp; intro a b c; omega) (by simp; intro a b; omega) ns
  exact this.imp (by intro a b h; simpa using h)
theorem sortI_perm (ns : List Int) : (sortI ns).Perm ns := List.mergeSort_perm _ _
theorem srt_rising : ∀ ns : List Int, rising ns = true ↔ Srt ns
  | [] => by simp [rising, Srt]
  | [a] => by simp [rising, Srt]
  | a :: b :: r => by
    have ih := srt_rising (b :: r)
    unfold Srt at ih ⊢
    rw [rising, Bool.and_eq_true, ih, decide_eq_true_eq, List.pairwise_cons (a := a)]
    constructor
    · rintro ⟨h1, h2⟩
      refine ⟨fun y hy => ?_, h2⟩
      rcases List.mem_cons.mp hy with rfl | hy
      · exact h1
      · exact Int.le_trans h1 ((List.pairwise_cons.mp h2).1 y hy)
    · rintro ⟨h1, h2⟩
      exact ⟨h1 b List.mem_cons_self, h2⟩
theorem same_i (i : Int) : SameOk (.int i) := .inr (.inr (.inl ⟨i, rfl⟩))
theorem same_b (b : Bool) : SameOk (.bl b) := .inr (.inl ⟨b, rfl⟩)
theorem same_t (ns : List Int) (h : ns.length ≤ 1000) : SameOk (.tup (ns.map .int)) := .inr (.inr (.inr ⟨ns, rfl, h⟩))
theorem known_i (i : Int) : Known (.int i) := ⟨_, rfl⟩
theorem known_s (s : Str) : Known (.str s) := ⟨_, rfl⟩
end Lk00
set_option Elab.async false
set_option linter.all false
set_option maxRecDepth 100000
set_option maxHeartbeats 4000000
namespace Lk00
open PySem PySem.Spec PyProof.Rows L2 Dw
def c_is_number : Ct := fun rs M R => ∃ x, rs = [.d x] ∧ M = [] ∧ Known x ∧ R (.d (.bl (isNum x))) []
theorem ln_is_number : ∀ rs M R, c_is_number rs M R → rs.length = 1 ∧ M.length = 0 := by
  rintro rs M R ⟨x, rfl, rfl, _⟩; exact ⟨rfl, rfl⟩
set_option maxHeartbeats 8000000 in
theorem ok_is_number {P : Program} {w : World} {K : PySem.W.Frag} {mg : Str → Option Value} {base : Heap} (T : Tx K mg) : FnOk P w K mg base CX0 1 T.a_is_number T.fd_is_number ["thing"] (spD K c_is_number) := by
  refine fnD (n0 := 0) T.F_is_number sc_is_number ln_is_number fun cdv A outer s H E hr => ⟨_, (qss_one (qs_ret (qe_and (qe_isi (by rfl) T.n_isinstance (qa_cons (qv 0) (qa_cons (qe_ty (by rfl) T.n_int boot_int) qa_nil))) (qe_one (qe_not (qe_isi (by rfl) T.n_isinstance (qa_cons (qv 0) (qa_cons (qe_ty (by rfl) T.n_bool boot_bool) qa_nil)))))))), fun rs M R h => ?_⟩
  obtain ⟨x, rfl, rfl, ⟨k, hk⟩, h⟩ := h
  cases x <;> first | (cases hk; done) | (simp only [sSeq, sNil, sIf, sSet, sAsg, sPar, sPar3, sRet, sRetN, sExpr, sBreak, sCont, sSetIx, wVar, wC, wOp, wChain, wTb, wAnd, wOr, wNotT, wAndV, wOrV, wNotV, wIf, wNil, wCons, wTup, wLst, wLstO, wSl, wNoPart, wPart, wCB, wNeg, wOrT, wTruth, wJoin, wLc, sFor, wipeE, wKw, wYes, wCall, wCallO, wApp, iL, iT, iR1, iR2, iZ, iS, gN, gsNil, gsCons, gTn, endsOf, retR_d, retR_o, sFrz, frz_d, frz_o0, frz_o1, frz_o10, tru_l, tru_t, tru_b, tru_i, tru_n, List.eraseIdx_cons_zero, List.eraseIdx_cons_succ, exists_eq', exists_eq, shf_d, bck_d, toC_nil, toC_d, toC_o, ds_nil, ds_cons, dats_nil, dats_d, dat_d, dat_o0, dat_o1, dat_o2, startE, kg, cutE, cut1_d, cut1_n, cut1_o0, cut1_o1, zipA,
  dAdd_i, dI0_i, dMod_i, dFdiv_i, dPow_i, dLt_i, dLe_i, dGt_i, dGe_i, dLt_s, dLe_s, dGt_s, dGe_s, dEq_i, dEq_s, dEq_b, dEq_is, dEq_si, dEq_ni, dEq_in, dEq_sn, dEq_ns, dNe_i, dNe_s, dNe_b, dNe_is, dNe_si, dNe_ni, dNe_in, dIs_b, dIs_n, dIsNot_b, dIsNot_n, dIx_l, dIx_t, dSl_l, dSl_t, dEq_ti, dEq_li, D.isN, atI_0, atI_1, atI_2, atI_3, atI_4, atI_5, atI_map, map_int_inj, map_str_inj,
  fLen_t, fLen_l, fLen_s, fInt_i, fInt_b, fTup_l, fTup_t, fList_l, fList_t, fMax2_i, fMin2_i, fAbs_i, isi_int_int, isi_int_bool, isi_int_str, isi_int_tup, isi_int_lst, isi_bl_int, isi_bl_bool, isi_bl_str, isi_bl_tup, isi_str_int, isi_str_bool, isi_str_str, isi_str_tup, isi_tup_int, isi_tup_bool, isi_tup_str, isi_tup_tup, isi_lst_int, isi_lst_bool, isi_lst_str, isi_lst_tup, isi_lst_lst, isi_non_int, isi_non_bool, isi_non_str, isi_non_tup, items_t, items_l,
  List.getElem?_cons_zero, List.getElem?_cons_succ, List.set_cons_zero, List.set_cons_succ, List.map_cons, List.map_nil, List.length_cons, List.length_nil, List.cons_append, List.nil_append, List.append_nil, List.replicate_succ, List.replicate_zero, Nat.reduceAdd, Nat.reduceSub, List.head?_cons, List.tail_cons, List.take_succ_cons, List.take_zero, List.take_nil,
  Option.some.injEq, Option.map_some, Option.map_none, exists_eq_left', exists_eq_left, Rv.d.injEq, Rv.o.injEq, D.int.injEq, D.bl.injEq, D.str.injEq, D.tup.injEq, D.lst.injEq, MO.lst.injEq, List.cons.injEq, and_true, true_and, and_assoc, exists_and_left, decide_eq_true_eq, if_true, Bool.true_eq_false, Bool.false_eq_true, if_false, reduceIte, Bool.not_true, Bool.not_false, eq_self, exists_const, List.filterMap_cons_some, List.filterMap_nil, List.filterMap_cons, and_self, CMul_iff, or_true, true_or, Int.reduceLT, Int.reduceLE, Int.reduceToNat, Int.reduceNeg, Int.reduceSub, Int.reduceAdd, Int.reducePow, Nat.reducePow, Int.reduceMul, ixN_def, Int.cast_ofNat_Int, Int.reduceEq, decide_true, decide_false, dMul_i, dPow_i, strD, reduceCtorEq, ite_true, ite_false, Nat.reduceLT, Nat.reduceLeDiff, Int.reduceAbs, false_and, and_false, or_false, false_or, exists_false]; exact h)
end Lk00
set_option Elab.async false
set_option linter.all false
set_option maxRecDepth 100000
set_option maxHeartbeats 4000000
namespace Lk00
open PySem PySem.Spec PyProof.Rows L2 Dw
def c_is_thing : Ct := fun rs M R => ∃ x, rs = [.d x] ∧ M = [] ∧ Known x ∧ R (.d (.bl (isThing x))) []
theorem ln_is_thing : ∀ rs M R, c_is_thing rs M R → rs.length = 1 ∧ M.length = 0 := by
  rintro rs M R ⟨x, rfl, rfl, _⟩; exact ⟨rfl, rfl⟩
set_option maxHeartbeats 8000000 in
theorem ok_is_thing {P : Program} {w : World} {K : PySem.W.Frag} {mg : Str → Option Value} {base : Heap} (T : Tx K mg) : FnOk P w K mg base CX0 2 T.a_is_thing T.fd_is_thing ["thing"] (spD K c_is_thing) := by
  refine fnD (n0 := 0) T.F_is_thing sc_is_thing ln_is_thing fun cdv A outer s H E hr => ⟨_, (qss_one (qs_ret (qe_and (qe_call (ok_is_number T) (hr.mono (by decide)) (by rfl) T.g_is_number T.F_is_number.kp (b_is_number T) (qa_cons (qv 0) qa_nil)) (qe_one (qe_chain or_le op2_le or_le op2_le (qe_sub qe_int (qe_gint (by rfl) T.k_MOST_THING)) (qv 0) (qe_gint (by rfl) T.k_MOST_THING)))))), fun rs M R h => ?_⟩
  obtain ⟨x, rfl, rfl, hk, h⟩ := h
  simp only [sSeq, sNil, sIf, sSet, sAsg, sPar, sPar3, sRet, sRetN, sExpr, sBreak, sCont, sSetIx, wVar, wC, wOp, wChain, wTb, wAnd, wOr, wNotT, wAndV, wOrV, wNotV, wIf, wNil, wCons, wTup, wLst, wLstO, wSl, wNoPart, wPart, wCB, wNeg, wOrT, wTruth, wJoin, wLc, sFor, wipeE, wKw, wYes, wCall, wCallO, wApp, iL, iT, iR1, iR2, iZ, iS, gN, gsNil, gsCons, gTn, endsOf, retR_d, retR_o, sFrz, frz_d, frz_o0, frz_o1, frz_o10, tru_l, tru_t, tru_b, tru_i, tru_n, List.eraseIdx_cons_zero, List.eraseIdx_cons_succ, exists_eq', exists_eq, shf_d, bck_d, toC_nil, toC_d, toC_o, ds_nil, ds_cons, dats_nil, dats_d, dat_d, dat_o0, dat_o1, dat_o2, startE, kg, cutE, cut1_d, cut1_n, cut1_o0, cut1_o1, zipA,
  dAdd_i, dI0_i, dMod_i, dFdiv_i, dPow_i, dLt_i, dLe_i, dGt_i, dGe_i, dLt_s, dLe_s, dGt_s, dGe_s, dEq_i, dEq_s, dEq_b, dEq_is, dEq_si, dEq_ni, dEq_in, dEq_sn, dEq_ns, dNe_i, dNe_s, dNe_b, dNe_is, dNe_si, dNe_ni, dNe_in, dIs_b, dIs_n, dIsNot_b, dIsNot_n, dIx_l, dIx_t, dSl_l, dSl_t, dEq_ti, dEq_li, D.isN, atI_0, atI_1, atI_2, atI_3, atI_4, atI_5, atI_map, map_int_inj, map_str_inj,
  fLen_t, fLen_l, fLen_s, fInt_i, fInt_b, fTup_l, fTup_t, fList_l, fList_t, fMax2_i, fMin2_i, fAbs_i, isi_int_int, isi_int_bool, isi_int_str, isi_int_tup, isi_int_lst, isi_bl_int, isi_bl_bool, isi_bl_str, isi_bl_tup, isi_str_int, isi_str_bool, isi_str_str, isi_str_tup, isi_tup_int, isi_tup_bool, isi_tup_str, isi_tup_tup, isi_lst_int, isi_lst_bool, isi_lst_str, isi_lst_tup, isi_lst_lst, isi_non_int, isi_non_bool, isi_non_str, isi_non_tup, items_t, items_l,
  List.getElem?_cons_zero, List.getElem?_cons_succ, List.set_cons_zero, List.set_cons_succ, List.map_cons, List.map_nil, List.length_cons, List.length_nil, List.cons_append, List.nil_append, List.append_nil, List.replicate_succ, List.replicate_zero, Nat.reduceAdd, Nat.reduceSub, List.head?_cons, List.tail_cons, List.take_succ_cons, List.take_zero, List.take_nil,
  Option.some.injEq, Option.map_some, Option.map_none, exists_eq_left', exists_eq_left, Rv.d.injEq, Rv.o.injEq, D.int.injEq, D.bl.injEq, D.str.injEq, D.tup.injEq, D.lst.injEq, MO.lst.injEq, List.cons.injEq, and_true, true_and, and_assoc, exists_and_left, decide_eq_true_eq, if_true, Bool.true_eq_false, Bool.false_eq_true, if_false, reduceIte, Bool.not_true, Bool.not_false, eq_self, exists_const, List.filterMap_cons_some, List.filterMap_nil, List.filterMap_cons, and_self, CMul_iff, or_true, true_or, Int.reduceLT, Int.reduceLE, Int.reduceToNat, Int.reduceNeg, Int.reduceSub, Int.reduceAdd, Int.reducePow, Nat.reducePow, Int.reduceMul, ixN_def, Int.cast_ofNat_Int, Int.reduceEq, decide_true, decide_false, dMul_i, dPow_i, strD, reduceCtorEq, ite_true, ite_false, Nat.reduceLT, Nat.reduceLeDiff, Int.reduceAbs, false_and, and_false, or_false, false_or, exists_false]
  refine ⟨x, rfl, rfl, hk, ?_⟩
  cases x with
  | int i =>
    simp only [sSeq, sNil, sIf, sSet, sAsg, sPar, sPar3, sRet, sRetN, sExpr, sBreak, sCont, sSetIx, wVar, wC, wOp, wChain, wTb, wAnd, wOr, wNotT, wAndV, wOrV, wNotV, wIf, wNil, wCons, wTup, wLst, wLstO, wSl, wNoPart, wPart, wCB, wNeg, wOrT, wTruth, wJoin, wLc, sFor, wipeE, wKw, wYes, wCall, wCallO, wApp, iL, iT, iR1, iR2, iZ, iS, gN, gsNil, gsCons, gTn, endsOf, retR_d, retR_o, sFrz, frz_d, frz_o0, frz_o1, frz_o10, tru_l, tru_t, tru_b, tru_i, tru_n, List.eraseIdx_cons_zero, List.eraseIdx_cons_succ, exists_eq', exists_eq, shf_d, bck_d, toC_nil, toC_d, toC_o, ds_nil, ds_cons, dats_nil, dats_d, dat_d, dat_o0, dat_o1, dat_o2, startE, kg, cutE, cut1_d, cut1_n, cut1_o0, cut1_o1, zipA,
  dAdd_i, dI0_i, dMod_i, dFdiv_i, dPow_i, dLt_i, dLe_i, dGt_i, dGe_i, dLt_s, dLe_s, dGt_s, dGe_s, dEq_i, dEq_s, dEq_b, dEq_is, dEq_si, dEq_ni, dEq_in, dEq_sn, dEq_ns, dNe_i, dNe_s, dNe_b, dNe_is, dNe_si, dNe_ni, dNe_in, dIs_b, dIs_n, dIsNot_b, dIsNot_n, dIx_l, dIx_t, dSl_l, dSl_t, dEq_ti, dEq_li, D.isN, atI_0, atI_1, atI_2, atI_3, atI_4, atI_5, atI_map, map_int_inj, map_str_inj,
  fLen_t, fLen_l, fLen_s, fInt_i, fInt_b, fTup_l, fTup_t, fList_l, fList_t, fMax2_i, fMin2_i, fAbs_i, isi_int_int, isi_int_bool, isi_int_str, isi_int_tup, isi_int_lst, isi_bl_int, isi_bl_bool, isi_bl_str, isi_bl_tup, isi_str_int, isi_str_bool, isi_str_str, isi_str_tup, isi_tup_int, isi_tup_bool, isi_tup_str, isi_tup_tup, isi_lst_int, isi_lst_bool, isi_lst_str, isi_lst_tup, isi_lst_lst, isi_non_int, isi_non_bool, isi_non_str, isi_non_tup, items_t, items_l,
  List.getElem?_cons_zero, List.getElem?_cons_succ, List.set_cons_zero, List.set_cons_succ, List.map_cons, List.map_nil, List.length_cons, List.length_nil, List.cons_append, List.nil_append, List.append_nil, List.replicate_succ, List.replicate_zero, Nat.reduceAdd, Nat.reduceSub, List.head?_cons, List.tail_cons, List.take_succ_cons, List.take_zero, List.take_nil,
  Option.some.injEq, Option.map_some, Option.map_none, exists_eq_left', exists_eq_left, Rv.d.injEq, Rv.o.injEq, D.int.injEq, D.bl.injEq, D.str.injEq, D.tup.injEq, D.lst.injEq, MO.lst.injEq, List.cons.injEq, and_true, true_and, and_assoc, exists_and_left, decide_eq_true_eq, if_true, Bool.true_eq_false, Bool.false_eq_true, if_false, reduceIte, Bool.not_true, Bool.not_false, eq_self, exists_const, List.filterMap_cons_some, List.filterMap_nil, List.filterMap_cons, and_self, CMul_iff, or_true, true_or, Int.reduceLT, Int.reduceLE, Int.reduceToNat, Int.reduceNeg, Int.reduceSub, Int.reduceAdd, Int.reducePow, Nat.reducePow, Int.reduceMul, ixN_def, Int.cast_ofNat_Int, Int.reduceEq, decide_true, decide_false, dMul_i, dPow_i, strD, reduceCtorEq, ite_true, ite_false, Nat.reduceLT, Nat.reduceLeDiff, Int.reduceAbs, false_and, and_false, or_false, false_or, exists_false, isNum]
    simp only [isThing] at h
    by_cases h1 : -1000 ≤ i
    · rw [if_pos h1]
      have e : decide (i ≤ 1000) = decide (-1000 ≤ i ∧ i ≤ 1000) := by rw [decide_eq_decide]; omega
      rw [e]; exact h
    · rw [if_neg h1]
      have e : decide (-1000 ≤ i ∧ i ≤ 1000) = false := decide_eq_false (by omega)
      rw [e] at h; exact h
  | _ => simp only [sSeq, sNil, sIf, sSet, sAsg, sPar, sPar3, sRet, sRetN, sExpr, sBreak, sCont, sSetIx, wVar, wC, wOp, wChain, wTb, wAnd, wOr, wNotT, wAndV, wOrV, wNotV, wIf, wNil, wCons, wTup, wLst, wLstO, wSl, wNoPart, wPart, wCB, wNeg, wOrT, wTruth, wJoin, wLc, sFor, wipeE, wKw, wYes, wCall, wCallO, wApp, iL, iT, iR1, iR2, iZ, iS, gN, gsNil, gsCons, gTn, endsOf, retR_d, retR_o, sFrz, frz_d, frz_o0, frz_o1, frz_o10, tru_l, tru_t, tru_b, tru_i, tru_n, List.eraseIdx_cons_zero, List.eraseIdx_cons_succ, exists_eq', exists_eq, shf_d, bck_d, toC_nil, toC_d, toC_o, ds_nil, ds_cons, dats_nil, dats_d, dat_d, dat_o0, dat_o1, dat_o2, startE, kg, cutE, cut1_d, cut1_n, cut1_o0, cut1_o1, zipA,
  dAdd_i, dI0_i, dMod_i, dFdiv_i, dPow_i, dLt_i, dLe_i, dGt_i, dGe_i, dLt_s, dLe_s, dGt_s, dGe_s, dEq_i, dEq_s, dEq_b, dEq_is, dEq_si, dEq_ni, dEq_in, dEq_sn, dEq_ns, dNe_i, dNe_s, dNe_b, dNe_is, dNe_si, dNe_ni, dNe_in, dIs_b, dIs_n, dIsNot_b, dIsNot_n, dIx_l, dIx_t, dSl_l, dSl_t, dEq_ti, dEq_li, D.isN, atI_0, atI_1, atI_2, atI_3, atI_4, atI_5, atI_map, map_int_inj, map_str_inj,
  fLen_t, fLen_l, fLen_s, fInt_i, fInt_b, fTup_l, fTup_t, fList_l, fList_t, fMax2_i, fMin2_i, fAbs_i, isi_int_int, isi_int_bool, isi_int_str, isi_int_tup, isi_int_lst, isi_bl_int, isi_bl_bool, isi_bl_str, isi_bl_tup, isi_str_int, isi_str_bool, isi_str_str, isi_str_tup, isi_tup_int, isi_tup_bool, isi_tup_str, isi_tup_tup, isi_lst_int, isi_lst_bool, isi_lst_str, isi_lst_tup, isi_lst_lst, isi_non_int, isi_non_bool, isi_non_str, isi_non_tup, items_t, items_l,
  List.getElem?_cons_zero, List.getElem?_cons_succ, List.set_cons_zero, List.set_cons_succ, List.map_cons, List.map_nil, List.length_cons, List.length_nil, List.cons_append, List.nil_append, List.append_nil, List.replicate_succ, List.replicate_zero, Nat.reduceAdd, Nat.reduceSub, List.head?_cons, List.tail_cons, List.take_succ_cons, List.take_zero, List.take_nil,
  Option.some.injEq, Option.map_some, Option.map_none, exists_eq_left', exists_eq_left, Rv.d.injEq, Rv.o.injEq, D.int.injEq, D.bl.injEq, D.str.injEq, D.tup.injEq, D.lst.injEq, MO.lst.injEq, List.cons.injEq, and_true, true_and, and_assoc, exists_and_left, decide_eq_true_eq, if_true, Bool.true_eq_false, Bool.false_eq_true, if_false, reduceIte, Bool.not_true, Bool.not_false, eq_self, exists_const, List.filterMap_cons_some, List.filterMap_nil, List.filterMap_cons, and_self, CMul_iff, or_true, true_or, Int.reduceLT, Int.reduceLE, Int.reduceToNat, Int.reduceNeg, Int.reduceSub, Int.reduceAdd, Int.reducePow, Nat.reducePow, Int.reduceMul, ixN_def, Int.cast_ofNat_Int, Int.reduceEq, decide_true, decide_false, dMul_i, dPow_i, strD, reduceCtorEq, ite_true, ite_false, Nat.reduceLT, Nat.reduceLeDiff, Int.reduceAbs, false_and, and_false, or_false, false_or, exists_false, isNum]; exact h
end Lk00
set_option Elab.async false
set_option linter.all false
set_option maxRecDepth 100000
set_option maxHeartbeats 4000000
namespace Lk00
open PySem PySem.Spec PyProof.Rows L2 Dw
def c_is_told_number : Ct := fun rs M R => ∃ x, rs = [.d x] ∧ M = [] ∧ Known x ∧ R (.d (.bl (isTold x))) []
theorem ln_is_told_number : ∀ rs M R, c_is_told_number rs M R → rs.length = 1 ∧ M.length = 0 := by
  rintro rs M R ⟨x, rfl, rfl, _⟩; exact ⟨rfl, rfl⟩
set_option maxHeartbeats 8000000 in
theorem ok_is_told_number {P : Program} {w : World} {K : PySem.W.Frag} {mg : Str → Option Value} {base : Heap} (T : Tx K mg) : FnOk P w K mg base CX0 2 T.a_is_told_number T.fd_is_told_number ["thing"] (spD K c_is_told_number) := by
  refine fnD (n0 := 0) T.F_is_told_number sc_is_told_number ln_is_told_number fun cdv A outer s H E hr => ⟨_, (qss_one (qs_ret (qe_and (qe_call (ok_is_number T) (hr.mono (by decide)) (by rfl) T.g_is_number T.F_is_number.kp (b_is_number T) (qa_cons (qv 0) qa_nil)) (qe_one (qe_chain or_le op2_le or_le op2_le qe_int (qv 0) (qe_gint (by rfl) T.k_MOST_TOLD)))))), fun rs M R h => ?_⟩
  obtain ⟨x, rfl, rfl, hk, h⟩ := h
  simp only [sSeq, sNil, sIf, sSet, sAsg, sPar, sPar3, sRet, sRetN, sExpr, sBreak, sCont, sSetIx, wVar, wC, wOp, wChain, wTb, wAnd, wOr, wNotT, wAndV, wOrV, wNotV, wIf, wNil, wCons, wTup, wLst, wLstO, wSl, wNoPart, wPart, wCB, wNeg, wOrT, wTruth, wJoin, wLc, sFor, wipeE, wKw, wYes, wCall, wCallO, wApp, iL, iT, iR1, iR2, iZ, iS, gN, gsNil, gsCons, gTn, endsOf, retR_d, retR_o, sFrz, frz_d, frz_o0, frz_o1, frz_o10, tru_l, tru_t, tru_b, tru_i, tru_n, List.eraseIdx_cons_zero, List.eraseIdx_cons_succ, exists_eq', exists_eq, shf_d, bck_d, toC_nil, toC_d, toC_o, ds_nil, ds_cons, dats_nil, dats_d, dat_d, dat_o0, dat_o1, dat_o2, startE, kg, cutE, cut1_d, cut1_n, cut1_o0, cut1_o1, zipA,
  dAdd_i, dI0_i, dMod_i, dFdiv_i, dPow_i, dLt_i, dLe_i, dGt_i, dGe_i, dLt_s, dLe_s, dGt_s, dGe_s, dEq_i, dEq_s, dEq_b, dEq_is, dEq_si, dEq_ni, dEq_in, dEq_sn, dEq_ns, dNe_i, dNe_s, dNe_b, dNe_is, dNe_si, dNe_ni, dNe_in, dIs_b, dIs_n, dIsNot_b, dIsNot_n, dIx_l, dIx_t, dSl_l, dSl_t, dEq_ti, dEq_li, D.isN, atI_0, atI_1, atI_2, atI_3, atI_4, atI_5, atI_map, map_int_inj, map_str_inj,
  fLen_t, fLen_l, fLen_s, fInt_i, fInt_b, fTup_l, fTup_t, fList_l, fList_t, fMax2_i, fMin2_i, fAbs_i, isi_int_int, isi_int_bool, isi_int_str, isi_int_tup, isi_int_lst, isi_bl_int, isi_bl_bool, isi_bl_str, isi_bl_tup, isi_str_int, isi_str_bool, isi_str_str, isi_str_tup, isi_tup_int, isi_tup_bool, isi_tup_str, isi_tup_tup, isi_lst_int, isi_lst_bool, isi_lst_str, isi_lst_tup, isi_lst_lst, isi_non_int, isi_non_bool, isi_non_str, isi_non_tup, items_t, items_l,
  List.getElem?_cons_zero, List.getElem?_cons_succ, List.set_cons_zero, List.set_cons_succ, List.map_cons, List.map_nil, List.length_cons, List.length_nil, List.cons_append, List.nil_append, List.append_nil, List.replicate_succ, List.replicate_zero, Nat.reduceAdd, Nat.reduceSub, List.head?_cons, List.tail_cons, List.take_succ_cons, List.take_zero, List.take_nil,
  Option.some.injEq, Option.map_some, Option.map_none, exists_eq_left', exists_eq_left, Rv.d.injEq, Rv.o.injEq, D.int.injEq, D.bl.injEq, D.str.injEq, D.tup.injEq, D.lst.injEq, MO.lst.injEq, List.cons.injEq, and_true, true_and, and_assoc, exists_and_left, decide_eq_true_eq, if_true, Bool.true_eq_false, Bool.false_eq_true, if_false, reduceIte, Bool.not_true, Bool.not_false, eq_self, exists_const, List.filterMap_cons_some, List.filterMap_nil, List.filterMap_cons, and_self, CMul_iff, or_true, true_or, Int.reduceLT, Int.reduceLE, Int.reduceToNat, Int.reduceNeg, Int.reduceSub, Int.reduceAdd, Int.reducePow, Nat.reducePow, Int.reduceMul, ixN_def, Int.cast_ofNat_Int, Int.reduceEq, decide_true, decide_false, dMul_i, dPow_i, strD, reduceCtorEq, ite_true, ite_false, Nat.reduceLT, Nat.reduceLeDiff, Int.reduceAbs, false_and, and_false, or_false, false_or, exists_false]
  refine ⟨x, rfl, rfl, hk, ?_⟩
  cases x with
  | int i =>
    simp only [sSeq, sNil, sIf, sSet, sAsg, sPar, sPar3, sRet, sRetN, sExpr, sBreak, sCont, sSetIx, wVar, wC, wOp, wChain, wTb, wAnd, wOr, wNotT, wAndV, wOrV, wNotV, wIf, wNil, wCons, wTup, wLst, wLstO, wSl, wNoPart, wPart, wCB, wNeg, wOrT, wTruth, wJoin, wLc, sFor, wipeE, wKw, wYes, wCall, wCallO, wApp, iL, iT, iR1, iR2, iZ, iS, gN, gsNil, gsCons, gTn, endsOf, retR_d, retR_o, sFrz, frz_d, frz_o0, frz_o1, frz_o10, tru_l, tru_t, tru_b, tru_i, tru_n, List.eraseIdx_cons_zero, List.eraseIdx_cons_succ, exists_eq', exists_eq, shf_d, bck_d, toC_nil, toC_d, toC_o, ds_nil, ds_cons, dats_nil, dats_d, dat_d, dat_o0, dat_o1, dat_o2, startE, kg, cutE, cut1_d, cut1_n, cut1_o0, cut1_o1, zipA,
  dAdd_i, dI0_i, dMod_i, dFdiv_i, dPow_i, dLt_i, dLe_i, dGt_i, dGe_i, dLt_s, dLe_s, dGt_s, dGe_s, dEq_i, dEq_s, dEq_b, dEq_is, dEq_si, dEq_ni, dEq_in, dEq_sn, dEq_ns, dNe_i, dNe_s, dNe_b, dNe_is, dNe_si, dNe_ni, dNe_in, dIs_b, dIs_n, dIsNot_b, dIsNot_n, dIx_l, dIx_t, dSl_l, dSl_t, dEq_ti, dEq_li, D.isN, atI_0, atI_1, atI_2, atI_3, atI_4, atI_5, atI_map, map_int_inj, map_str_inj,
  fLen_t, fLen_l, fLen_s, fInt_i, fInt_b, fTup_l, fTup_t, fList_l, fList_t, fMax2_i, fMin2_i, fAbs_i, isi_int_int, isi_int_bool, isi_int_str, isi_int_tup, isi_int_lst, isi_bl_int, isi_bl_bool, isi_bl_str, isi_bl_tup, isi_str_int, isi_str_bool, isi_str_str, isi_str_tup, isi_tup_int, isi_tup_bool, isi_tup_str, isi_tup_tup, isi_lst_int, isi_lst_bool, isi_lst_str, isi_lst_tup, isi_lst_lst, isi_non_int, isi_non_bool, isi_non_str, isi_non_tup, items_t, items_l,
  List.getElem?_cons_zero, List.getElem?_cons_succ, List.set_cons_zero, List.set_cons_succ, List.map_cons, List.map_nil, List.length_cons, List.length_nil, List.cons_append, List.nil_append, List.append_nil, List.replicate_succ, List.replicate_zero, Nat.reduceAdd, Nat.reduceSub, List.head?_cons, List.tail_cons, List.take_succ_cons, List.take_zero, List.take_nil,
  Option.some.injEq, Option.map_some, Option.map_none, exists_eq_left', exists_eq_left, Rv.d.injEq, Rv.o.injEq, D.int.injEq, D.bl.injEq, D.str.injEq, D.tup.injEq, D.lst.injEq, MO.lst.injEq, List.cons.injEq, and_true, true_and, and_assoc, exists_and_left, decide_eq_true_eq, if_true, Bool.true_eq_false, Bool.false_eq_true, if_false, reduceIte, Bool.not_true, Bool.not_false, eq_self, exists_const, List.filterMap_cons_some, List.filterMap_nil, List.filterMap_cons, and_self, CMul_iff, or_true, true_or, Int.reduceLT, Int.reduceLE, Int.reduceToNat, Int.reduceNeg, Int.reduceSub, Int.reduceAdd, Int.reducePow, Nat.reducePow, Int.reduceMul, ixN_def, Int.cast_ofNat_Int, Int.reduceEq, decide_true, decide_false, dMul_i, dPow_i, strD, reduceCtorEq, ite_true, ite_false, Nat.reduceLT, Nat.reduceLeDiff, Int.reduceAbs, false_and, and_false, or_false, false_or, exists_false, isNum]
    simp only [isTold] at h
    by_cases h1 : 0 ≤ i
    · rw [if_pos h1]
      have e : decide (i ≤ 999) = decide (0 ≤ i ∧ i ≤ 999) := by rw [decide_eq_decide]; omega
      rw [e]; exact h
    · rw [if_neg h1]
      have e : decide (0 ≤ i ∧ i ≤ 999) = false := decide_eq_false (by omega)
      rw [e] at h; exact h
  | _ => simp only [sSeq, sNil, sIf, sSet, sAsg, sPar, sPar3, sRet, sRetN, sExpr, sBreak, sCont, sSetIx, wVar, wC, wOp, wChain, wTb, wAnd, wOr, wNotT, wAndV, wOrV, wNotV, wIf, wNil, wCons, wTup, wLst, wLstO, wSl, wNoPart, wPart, wCB, wNeg, wOrT, wTruth, wJoin, wLc, sFor, wipeE, wKw, wYes, wCall, wCallO, wApp, iL, iT, iR1, iR2, iZ, iS, gN, gsNil, gsCons, gTn, endsOf, retR_d, retR_o, sFrz, frz_d, frz_o0, frz_o1, frz_o10, tru_l, tru_t, tru_b, tru_i, tru_n, List.eraseIdx_cons_zero, List.eraseIdx_cons_succ, exists_eq', exists_eq, shf_d, bck_d, toC_nil, toC_d, toC_o, ds_nil, ds_cons, dats_nil, dats_d, dat_d, dat_o0, dat_o1, dat_o2, startE, kg, cutE, cut1_d, cut1_n, cut1_o0, cut1_o1, zipA,
  dAdd_i, dI0_i, dMod_i, dFdiv_i, dPow_i, dLt_i, dLe_i, dGt_i, dGe_i, dLt_s, dLe_s, dGt_s, dGe_s, dEq_i, dEq_s, dEq_b, dEq_is, dEq_si, dEq_ni, dEq_in, dEq_sn, dEq_ns, dNe_i, dNe_s, dNe_b, dNe_is, dNe_si, dNe_ni, dNe_in, dIs_b, dIs_n, dIsNot_b, dIsNot_n, dIx_l, dIx_t, dSl_l, dSl_t, dEq_ti, dEq_li, D.isN, atI_0, atI_1, atI_2, atI_3, atI_4, atI_5, atI_map, map_int_inj, map_str_inj,
  fLen_t, fLen_l, fLen_s, fInt_i, fInt_b, fTup_l, fTup_t, fList_l, fList_t, fMax2_i, fMin2_i, fAbs_i, isi_int_int, isi_int_bool, isi_int_str, isi_int_tup, isi_int_lst, isi_bl_int, isi_bl_bool, isi_bl_str, isi_bl_tup, isi_str_int, isi_str_bool, isi_str_str, isi_str_tup, isi_tup_int, isi_tup_bool, isi_tup_str, isi_tup_tup, isi_lst_int, isi_lst_bool, isi_lst_str, isi_lst_tup, isi_lst_lst, isi_non_int, isi_non_bool, isi_non_str, isi_non_tup, items_t, items_l,
  List.getElem?_cons_zero, List.getElem?_cons_succ, List.set_cons_zero, List.set_cons_succ, List.map_cons, List.map_nil, List.length_cons, List.length_nil, List.cons_append, List.nil_append, List.append_nil, List.replicate_succ, List.replicate_zero, Nat.reduceAdd, Nat.reduceSub, List.head?_cons, List.tail_cons, List.take_succ_cons, List.take_zero, List.take_nil,
  Option.some.injEq, Option.map_some, Option.map_none, exists_eq_left', exists_eq_left, Rv.d.injEq, Rv.o.injEq, D.int.injEq, D.bl.injEq, D.str.injEq, D.tup.injEq, D.lst.injEq, MO.lst.injEq, List.cons.injEq, and_true, true_and, and_assoc, exists_and_left, decide_eq_true_eq, if_true, Bool.true_eq_false, Bool.false_eq_true, if_false, reduceIte, Bool.not_true, Bool.not_false, eq_self, exists_const, List.filterMap_cons_some, List.filterMap_nil, List.filterMap_cons, and_self, CMul_iff, or_true, true_or, Int.reduceLT, Int.reduceLE, Int.reduceToNat, Int.reduceNeg, Int.reduceSub, Int.reduceAdd, Int.reducePow, Nat.reducePow, Int.reduceMul, ixN_def, Int.cast_ofNat_Int, Int.reduceEq, decide_true, decide_false, dMul_i, dPow_i, strD, reduceCtorEq, ite_true, ite_false, Nat.reduceLT, Nat.reduceLeDiff, Int.reduceAbs, false_and, and_false, or_false, false_or, exists_false, isNum]; exact h
end Lk00
set_option Elab.async false
set_option linter.all false
set_option maxRecDepth 100000
set_option maxHeartbeats 4000000
namespace Lk00
open PySem PySem.Spec PyProof.Rows L2 Dw
def c_is_bin : Ct := fun rs M R => ∃ x, rs = [.d x] ∧ M = [] ∧ Known x ∧ (∀ s, x = .str s → s.length ≤ 1000) ∧ R (.d (.bl (isWord 97 122 x))) []
theorem ln_is_bin : ∀ rs M R, c_is_bin rs M R → rs.length = 1 ∧ M.length = 0 := by
  rintro rs M R ⟨x, rfl, rfl, _⟩; exact ⟨rfl, rfl⟩
set_option maxHeartbeats 8000000 in
theorem ok_is_bin {P : Program} {w : World} {K : PySem.W.Frag} {mg : Str → Option Value} {base : Heap} (T : Tx K mg) : FnOk P w K mg base CX0 1 T.a_is_bin T.fd_is_bin ["thing"] (spD K c_is_bin) := by
  refine fnD (n0 := 0) T.F_is_bin sc_is_bin ln_is_bin fun cdv A outer s H E hr => ⟨_, (qss_cons (qs_if (QW.t (qw_or (qt_not (qt_val (qe_isi (by rfl) T.n_isinstance (qa_cons (qv 0) (qa_cons (qe_ty (by rfl) T.n_str boot_str) qa_nil))))) (qw_or1 (qt_not (qt_chain or_le op2_le or_le op2_le qe_int (qe_len (by rfl) T.n_len (qa_cons (qv 0) qa_nil)) qe_int))))) (qss_one (qs_ret qe_bl)) qss_nil) (qss_one (qs_ret (qe_all rfl (by rfl) T.n_all (qa_cons (qe_lc rfl sc_is_bin.nd (qi_str (qv 0)) (blkOk_by (own := [("sign", 1)]) (N := ["thing", "sign"]) (sc := defScope s_is_bin) (by decide +kernel)) (by decide) (fun _ _ _ _ _ => (qg_name (i := 1) sc_is_bin.nd rfl (by first | exact .inl rfl | exact .inr rfl))) (fun _ _ _ _ _ => qts_nil) (fun _ _ _ _ _ => (qe_chain or_le op2_le or_le op2_le qe_str (qv 1) qe_str))) qa_nil))))), fun rs M R h => ?_⟩
  obtain ⟨x, rfl, rfl, ⟨k, hk⟩, hs, h⟩ := h
  cases x with
  | str s =>
    have hl := hs s rfl
    simp only [isWord] at h
    simp only [sSeq, sNil, sIf, sSet, sAsg, sPar, sPar3, sRet, sRetN, sExpr, sBreak, sCont, sSetIx, wVar, wC, wOp, wChain, wTb, wAnd, wOr, wNotT, wAndV, wOrV, wNotV, wIf, wNil, wCons, wTup, wLst, wLstO, wSl, wNoPart, wPart, wCB, wNeg, wOrT, wTruth, wJoin, wLc, sFor, wipeE, wKw, wYes, wCall, wCallO, wApp, iL, iT, iR1, iR2, iZ, iS, gN, gsNil, gsCons, gTn, endsOf, retR_d, retR_o, sFrz, frz_d, frz_o0, frz_o1, frz_o10, tru_l, tru_t, tru_b, tru_i, tru_n, List.eraseIdx_cons_zero, List.eraseIdx_cons_succ, exists_eq', exists_eq, shf_d, bck_d, toC_nil, toC_d, toC_o, ds_nil, ds_cons, dats_nil, dats_d, dat_d, dat_o0, dat_o1, dat_o2, startE, kg, cutE, cut1_d, cut1_n, cut1_o0, cut1_o1, zipA,
  dAdd_i, dI0_i, dMod_i, dFdiv_i, dPow_i, dLt_i, dLe_i, dGt_i, dGe_i, dLt_s, dLe_s, dGt_s, dGe_s, dEq_i, dEq_s, dEq_b, dEq_is, dEq_si, dEq_ni, dEq_in, dEq_sn, dEq_ns, dNe_i, dNe_s, dNe_b, dNe_is, dNe_si, dNe_ni, dNe_in, dIs_b, dIs_n, dIsNot_b, dIsNot_n, dIx_l, dIx_t, dSl_l, dSl_t, dEq_ti, dEq_li, D.isN, atI_0, atI_1, atI_2, atI_3, atI_4, atI_5, atI_map, map_int_inj, map_str_inj,
  fLen_t, fLen_l, fLen_s, fInt_i, fInt_b, fTup_l, fTup_t, fList_l, fList_t, fMax2_i, fMin2_i, fAbs_i, isi_int_int, isi_int_bool, isi_int_str, isi_int_tup, isi_int_lst, isi_bl_int, isi_bl_bool, isi_bl_str, isi_bl_tup, isi_str_int, isi_str_bool, isi_str_str, isi_str_tup, isi_tup_int, isi_tup_bool, isi_tup_str, isi_tup_tup, isi_lst_int, isi_lst_bool, isi_lst_str, isi_lst_tup, isi_lst_lst, isi_non_int, isi_non_bool, isi_non_str, isi_non_tup, items_t, items_l,
  List.getElem?_cons_zero, List.getElem?_cons_succ, List.set_cons_zero, List.set_cons_succ, List.map_cons, List.map_nil, List.length_cons, List.length_nil, List.cons_append, List.nil_append, List.append_nil, List.replicate_succ, List.replicate_zero, Nat.reduceAdd, Nat.reduceSub, List.head?_cons, List.tail_cons, List.take_succ_cons, List.take_zero, List.take_nil,
  Option.some.injEq, Option.map_some, Option.map_none, exists_eq_left', exists_eq_left, Rv.d.injEq, Rv.o.injEq, D.int.injEq, D.bl.injEq, D.str.injEq, D.tup.injEq, D.lst.injEq, MO.lst.injEq, List.cons.injEq, and_true, true_and, and_assoc, exists_and_left, decide_eq_true_eq, if_true, Bool.true_eq_false, Bool.false_eq_true, if_false, reduceIte, Bool.not_true, Bool.not_false, eq_self, exists_const, List.filterMap_cons_some, List.filterMap_nil, List.filterMap_cons, and_self, CMul_iff, or_true, true_or, Int.reduceLT, Int.reduceLE, Int.reduceToNat, Int.reduceNeg, Int.reduceSub, Int.reduceAdd, Int.reducePow, Nat.reducePow, Int.reduceMul, ixN_def, Int.cast_ofNat_Int, Int.reduceEq, decide_true, decide_false, dMul_i, dPow_i, strD, reduceCtorEq, ite_true, ite_false, Nat.reduceLT, Nat.reduceLeDiff, Int.reduceAbs, false_and, and_false, or_false, false_or, exists_false]
    refine ⟨sz (by omega), ?_⟩
    by_cases h1 : (1 : Int) ≤ (s.length : Int)
    · rw [if_pos h1]
      by_cases h2 : (s.length : Int) ≤ 8
      · simp only [h2, decide_true, Bool.not_true, Bool.false_eq_true, if_false]
        refine ⟨by rw [List.length_map]; exact sz (by show s.cps.toList.length ≤ 10000; rw [Array.length_toList]; exact Nat.le_trans hl (by decide)), lc_map' (fun c => .str ⟨#[c]⟩) (fun c => .bl (decide (97 ≤ c ∧ c ≤ 122))) _ (fun c hc G hG => ?_) ?_⟩
        · simp only [sSeq, sNil, sIf, sSet, sAsg, sPar, sPar3, sRet, sRetN, sExpr, sBreak, sCont, sSetIx, wVar, wC, wOp, wChain, wTb, wAnd, wOr, wNotT, wAndV, wOrV, wNotV, wIf, wNil, wCons, wTup, wLst, wLstO, wSl, wNoPart, wPart, wCB, wNeg, wOrT, wTruth, wJoin, wLc, sFor, wipeE, wKw, wYes, wCall, wCallO, wApp, iL, iT, iR1, iR2, iZ, iS, gN, gsNil, gsCons, gTn, endsOf, retR_d, retR_o, sFrz, frz_d, frz_o0, frz_o1, frz_o10, tru_l, tru_t, tru_b, tru_i, tru_n, List.eraseIdx_cons_zero, List.eraseIdx_cons_succ, exists_eq', exists_eq, shf_d, bck_d, toC_nil, toC_d, toC_o, ds_nil, ds_cons, dats_nil, dats_d, dat_d, dat_o0, dat_o1, dat_o2, startE, kg, cutE, cut1_d, cut1_n, cut1_o0, cut1_o1, zipA,
  dAdd_i, dI0_i, dMod_i, dFdiv_i, dPow_i, dLt_i, dLe_i, dGt_i, dGe_i, dLt_s, dLe_s, dGt_s, dGe_s, dEq_i, dEq_s, dEq_b, dEq_is, dEq_si, dEq_ni, dEq_in, dEq_sn, dEq_ns, dNe_i, dNe_s, dNe_b, dNe_is, dNe_si, dNe_ni, dNe_in, dIs_b, dIs_n, dIsNot_b, dIsNot_n, dIx_l, dIx_t, dSl_l, dSl_t, dEq_ti, dEq_li, D.isN, atI_0, atI_1, atI_2, atI_3, atI_4, atI_5, atI_map, map_int_inj, map_str_inj,
  fLen_t, fLen_l, fLen_s, fInt_i, fInt_b, fTup_l, fTup_t, fList_l, fList_t, fMax2_i, fMin2_i, fAbs_i, isi_int_int, isi_int_bool, isi_int_str, isi_int_tup, isi_int_lst, isi_bl_int, isi_bl_bool, isi_bl_str, isi_bl_tup, isi_str_int, isi_str_bool, isi_str_str, isi_str_tup, isi_tup_int, isi_tup_bool, isi_tup_str, isi_tup_tup, isi_lst_int, isi_lst_bool, isi_lst_str, isi_lst_tup, isi_lst_lst, isi_non_int, isi_non_bool, isi_non_str, isi_non_tup, items_t, items_l,
  List.getElem?_cons_zero, List.getElem?_cons_succ, List.set_cons_zero, List.set_cons_succ, List.map_cons, List.map_nil, List.length_cons, List.length_nil, List.cons_append, List.nil_append, List.append_nil, List.replicate_succ, List.replicate_zero, Nat.reduceAdd, Nat.reduceSub, List.head?_cons, List.tail_cons, List.take_succ_cons, List.take_zero, List.take_nil,
  Option.some.injEq, Option.map_some, Option.map_none, exists_eq_left', exists_eq_left, Rv.d.injEq, Rv.o.injEq, D.int.injEq, D.bl.injEq, D.str.injEq, D.tup.injEq, D.lst.injEq, MO.lst.injEq, List.cons.injEq, and_true, true_and, and_assoc, exists_and_left, decide_eq_true_eq, if_true, Bool.true_eq_false, Bool.false_eq_true, if_false, reduceIte, Bool.not_true, Bool.not_false, eq_self, exists_const, List.filterMap_cons_some, List.filterMap_nil, List.filterMap_cons, and_self, CMul_iff, or_true, true_or, Int.reduceLT, Int.reduceLE, Int.reduceToNat, Int.reduceNeg, Int.reduceSub, Int.reduceAdd, Int.reducePow, Nat.reducePow, Int.reduceMul, ixN_def, Int.cast_ofNat_Int, Int.reduceEq, decide_true, decide_false, dMul_i, dPow_i, strD, reduceCtorEq, ite_true, ite_false, Nat.reduceLT, Nat.reduceLeDiff, Int.reduceAbs, false_and, and_false, or_false, false_or, exists_false, show (Str.ofString "a").cps.toList = [97] from rfl, show (Str.ofString "z").cps.toList = [122] from rfl, letter_le]
          by_cases h3 : 97 ≤ c
          · rw [if_pos h3]
            have e : decide (c ≤ 122) = decide (97 ≤ c ∧ c ≤ 122) := by rw [decide_eq_decide]; omega
            rw [e]; exact hG
          · rw [if_neg h3]
            have e : decide (97 ≤ c ∧ c ≤ 122) = false := decide_eq_false (by omega)
            rw [e] at hG; exact hG
        · refine ⟨_, fAll_map, ?_⟩
          have e : decide (1 ≤ s.length ∧ s.length ≤ 8) = true := decide_eq_true (by omega)
          rw [e, Bool.true_and] at h
          exact h
      · simp only [h2, decide_false, Bool.not_false, if_true]
        have e : decide (1 ≤ s.length ∧ s.length ≤ 8) = false := decide_eq_false (by omega)
        rw [e, Bool.false_and] at h; exact h
    · rw [if_neg h1]
      have e : decide (1 ≤ s.length ∧ s.length ≤ 8) = false := decide_eq_false (by omega)
      rw [e, Bool.false_and] at h
      exact h
  | non => simp only [sSeq, sNil, sIf, sSet, sAsg, sPar, sPar3, sRet, sRetN, sExpr, sBreak, sCont, sSetIx, wVar, wC, wOp, wChain, wTb, wAnd, wOr, wNotT, wAndV, wOrV, wNotV, wIf, wNil, wCons, wTup, wLst, wLstO, wSl, wNoPart, wPart, wCB, wNeg, wOrT, wTruth, wJoin, wLc, sFor, wipeE, wKw, wYes, wCall, wCallO, wApp, iL, iT, iR1, iR2, iZ, iS, gN, gsNil, gsCons, gTn, endsOf, retR_d, retR_o, sFrz, frz_d, frz_o0, frz_o1, frz_o10, tru_l, tru_t, tru_b, tru_i, tru_n, List.eraseIdx_cons_zero, List.eraseIdx_cons_succ, exists_eq', exists_eq, shf_d, bck_d, toC_nil, toC_d, toC_o, ds_nil, ds_cons, dats_nil, dats_d, dat_d, dat_o0, dat_o1, dat_o2, startE, kg, cutE, cut1_d, cut1_n, cut1_o0, cut1_o1, zipA,
  dAdd_i, dI0_i, dMod_i, dFdiv_i, dPow_i, dLt_i, dLe_i, dGt_i, dGe_i, dLt_s, dLe_s, dGt_s, dGe_s, dEq_i, dEq_s, dEq_b, dEq_is, dEq_si, dEq_ni, dEq_in, dEq_sn, dEq_ns, dNe_i, dNe_s, dNe_b, dNe_is, dNe_si, dNe_ni, dNe_in, dIs_b, dIs_n, dIsNot_b, dIsNot_n, dIx_l, dIx_t, dSl_l, dSl_t, dEq_ti, dEq_li, D.isN, atI_0, atI_1, atI_2, atI_3, atI_4, atI_5, atI_map, map_int_inj, map_str_inj,
  fLen_t, fLen_l, fLen_s, fInt_i, fInt_b, fTup_l, fTup_t, fList_l, fList_t, fMax2_i, fMin2_i, fAbs_i, isi_int_int, isi_int_bool, isi_int_str, isi_int_tup, isi_int_lst, isi_bl_int, isi_bl_bool, isi_bl_str, isi_bl_tup, isi_str_int, isi_str_bool, isi_str_str, isi_str_tup, isi_tup_int, isi_tup_bool, isi_tup_str, isi_tup_tup, isi_lst_int, isi_lst_bool, isi_lst_str, isi_lst_tup, isi_lst_lst, isi_non_int, isi_non_bool, isi_non_str, isi_non_tup, items_t, items_l,
  List.getElem?_cons_zero, List.getElem?_cons_succ, List.set_cons_zero, List.set_cons_succ, List.map_cons, List.map_nil, List.length_cons, List.length_nil, List.cons_append, List.nil_append, List.append_nil, List.replicate_succ, List.replicate_zero, Nat.reduceAdd, Nat.reduceSub, List.head?_cons, List.tail_cons, List.take_succ_cons, List.take_zero, List.take_nil,
  Option.some.injEq, Option.map_some, Option.map_none, exists_eq_left', exists_eq_left, Rv.d.injEq, Rv.o.injEq, D.int.injEq, D.bl.injEq, D.str.injEq, D.tup.injEq, D.lst.injEq, MO.lst.injEq, List.cons.injEq, and_true, true_and, and_assoc, exists_and_left, decide_eq_true_eq, if_true, Bool.true_eq_false, Bool.false_eq_true, if_false, reduceIte, Bool.not_true, Bool.not_false, eq_self, exists_const, List.filterMap_cons_some, List.filterMap_nil, List.filterMap_cons, and_self, CMul_iff, or_true, true_or, Int.reduceLT, Int.reduceLE, Int.reduceToNat, Int.reduceNeg, Int.reduceSub, Int.reduceAdd, Int.reducePow, Nat.reducePow, Int.reduceMul, ixN_def, Int.cast_ofNat_Int, Int.reduceEq, decide_true, decide_false, dMul_i, dPow_i, strD, reduceCtorEq, ite_true, ite_false, Nat.reduceLT, Nat.reduceLeDiff, Int.reduceAbs, false_and, and_false, or_false, false_or, exists_false]; exact h
  | bl b => simp only [sSeq, sNil, sIf, sSet, sAsg, sPar, sPar3, sRet, sRetN, sExpr, sBreak, sCont, sSetIx, wVar, wC, wOp, wChain, wTb, wAnd, wOr, wNotT, wAndV, wOrV, wNotV, wIf, wNil, wCons, wTup, wLst, wLstO, wSl, wNoPart, wPart, wCB, wNeg, wOrT, wTruth, wJoin, wLc, sFor, wipeE, wKw, wYes, wCall, wCallO, wApp, iL, iT, iR1, iR2, iZ, iS, gN, gsNil, gsCons, gTn, endsOf, retR_d, retR_o, sFrz, frz_d, frz_o0, frz_o1, frz_o10, tru_l, tru_t, tru_b, tru_i, tru_n, List.eraseIdx_cons_zero, List.eraseIdx_cons_succ, exists_eq', exists_eq, shf_d, bck_d, toC_nil, toC_d, toC_o, ds_nil, ds_cons, dats_nil, dats_d, dat_d, dat_o0, dat_o1, dat_o2, startE, kg, cutE, cut1_d, cut1_n, cut1_o0, cut1_o1, zipA,
  dAdd_i, dI0_i, dMod_i, dFdiv_i, dPow_i, dLt_i, dLe_i, dGt_i, dGe_i, dLt_s, dLe_s, dGt_s, dGe_s, dEq_i, dEq_s, dEq_b, dEq_is, dEq_si, dEq_ni, dEq_in, dEq_sn, dEq_ns, dNe_i, dNe_s, dNe_b, dNe_is, dNe_si, dNe_ni, dNe_in, dIs_b, dIs_n, dIsNot_b, dIsNot_n, dIx_l, dIx_t, dSl_l, dSl_t, dEq_ti, dEq_li, D.isN, atI_0, atI_1, atI_2, atI_3, atI_4, atI_5, atI_map, map_int_inj, map_str_inj,
  fLen_t, fLen_l, fLen_s, fInt_i, fInt_b, fTup_l, fTup_t, fList_l, fList_t, fMax2_i, fMin2_i, fAbs_i, isi_int_int, isi_int_bool, isi_int_str, isi_int_tup, isi_int_lst, isi_bl_int, isi_bl_bool, isi_bl_str, isi_bl_tup, isi_str_int, isi_str_bool, isi_str_str, isi_str_tup, isi_tup_int, isi_tup_bool, isi_tup_str, isi_tup_tup, isi_lst_int, isi_lst_bool, isi_lst_str, isi_lst_tup, isi_lst_lst, isi_non_int, isi_non_bool, isi_non_str, isi_non_tup, items_t, items_l,
  List.getElem?_cons_zero, List.getElem?_cons_succ, List.set_cons_zero, List.set_cons_succ, List.map_cons, List.map_nil, List.length_cons, List.length_nil, List.cons_append, List.nil_append, List.append_nil, List.replicate_succ, List.replicate_zero, Nat.reduceAdd, Nat.reduceSub, List.head?_cons, List.tail_cons, List.take_succ_cons, List.take_zero, List.take_nil,
  Option.some.injEq, Option.map_some, Option.map_none, exists_eq_left', exists_eq_left, Rv.d.injEq, Rv.o.injEq, D.int.injEq, D.bl.injEq, D.str.injEq, D.tup.injEq, D.lst.injEq, MO.lst.injEq, List.cons.injEq, and_true, true_and, and_assoc, exists_and_left, decide_eq_true_eq, if_true, Bool.true_eq_false, Bool.false_eq_true, if_false, reduceIte, Bool.not_true, Bool.not_false, eq_self, exists_const, List.filterMap_cons_some, List.filterMap_nil, List.filterMap_cons, and_self, CMul_iff, or_true, true_or, Int.reduceLT, Int.reduceLE, Int.reduceToNat, Int.reduceNeg, Int.reduceSub, Int.reduceAdd, Int.reducePow, Nat.reducePow, Int.reduceMul, ixN_def, Int.cast_ofNat_Int, Int.reduceEq, decide_true, decide_false, dMul_i, dPow_i, strD, reduceCtorEq, ite_true, ite_false, Nat.reduceLT, Nat.reduceLeDiff, Int.reduceAbs, false_and, and_false, or_false, false_or, exists_false]; exact h
  | int i => simp only [sSeq, sNil, sIf, sSet, sAsg, sPar, sPar3, sRet, sRetN, sExpr, sBreak, sCont, sSetIx, wVar, wC, wOp, wChain, wTb, wAnd, wOr, wNotT, wAndV, wOrV, wNotV, wIf, wNil, wCons, wTup, wLst, wLstO, wSl, wNoPart, wPart, wCB, wNeg, wOrT, wTruth, wJoin, wLc, sFor, wipeE, wKw, wYes, wCall, wCallO, wApp, iL, iT, iR1, iR2, iZ, iS, gN, gsNil, gsCons, gTn, endsOf, retR_d, retR_o, sFrz, frz_d, frz_o0, frz_o1, frz_o10, tru_l, tru_t, tru_b, tru_i, tru_n, List.eraseIdx_cons_zero, List.eraseIdx_cons_succ, exists_eq', exists_eq, shf_d, bck_d, toC_nil, toC_d, toC_o, ds_nil, ds_cons, dats_nil, dats_d, dat_d, dat_o0, dat_o1, dat_o2, startE, kg, cutE, cut1_d, cut1_n, cut1_o0, cut1_o1, zipA,
  dAdd_i, dI0_i, dMod_i, dFdiv_i, dPow_i, dLt_i, dLe_i, dGt_i, dGe_i, dLt_s, dLe_s, dGt_s, dGe_s, dEq_i, dEq_s, dEq_b, dEq_is, dEq_si, dEq_ni, dEq_in, dEq_sn, dEq_ns, dNe_i, dNe_s, dNe_b, dNe_is, dNe_si, dNe_ni, dNe_in, dIs_b, dIs_n, dIsNot_b, dIsNot_n, dIx_l, dIx_t, dSl_l, dSl_t, dEq_ti, dEq_li, D.isN, atI_0, atI_1, atI_2, atI_3, atI_4, atI_5, atI_map, map_int_inj, map_str_inj,
  fLen_t, fLen_l, fLen_s, fInt_i, fInt_b, fTup_l, fTup_t, fList_l, fList_t, fMax2_i, fMin2_i, fAbs_i, isi_int_int, isi_int_bool, isi_int_str, isi_int_tup, isi_int_lst, isi_bl_int, isi_bl_bool, isi_bl_str, isi_bl_tup, isi_str_int, isi_str_bool, isi_str_str, isi_str_tup, isi_tup_int, isi_tup_bool, isi_tup_str, isi_tup_tup, isi_lst_int, isi_lst_bool, isi_lst_str, isi_lst_tup, isi_lst_lst, isi_non_int, isi_non_bool, isi_non_str, isi_non_tup, items_t, items_l,
  List.getElem?_cons_zero, List.getElem?_cons_succ, List.set_cons_zero, List.set_cons_succ, List.map_cons, List.map_nil, List.length_cons, List.length_nil, List.cons_append, List.nil_append, List.append_nil, List.replicate_succ, List.replicate_zero, Nat.reduceAdd, Nat.reduceSub, List.head?_cons, List.tail_cons, List.take_succ_cons, List.take_zero, List.take_nil,
  Option.some.injEq, Option.map_some, Option.map_none, exists_eq_left', exists_eq_left, Rv.d.injEq, Rv.o.injEq, D.int.injEq, D.bl.injEq, D.str.injEq, D.tup.injEq, D.lst.injEq, MO.lst.injEq, List.cons.injEq, and_true, true_and, and_assoc, exists_and_left, decide_eq_true_eq, if_true, Bool.true_eq_false, Bool.false_eq_true, if_false, reduceIte, Bool.not_true, Bool.not_false, eq_self, exists_const, List.filterMap_cons_some, List.filterMap_nil, List.filterMap_cons, and_self, CMul_iff, or_true, true_or, Int.reduceLT, Int.reduceLE, Int.reduceToNat, Int.reduceNeg, Int.reduceSub, Int.reduceAdd, Int.reducePow, Nat.reducePow, Int.reduceMul, ixN_def, Int.cast_ofNat_Int, Int.reduceEq, decide_true, decide_false, dMul_i, dPow_i, strD, reduceCtorEq, ite_true, ite_false, Nat.reduceLT, Nat.reduceLeDiff, Int.reduceAbs, false_and, and_false, or_false, false_or, exists_false]; exact h
  | tup a => simp only [sSeq, sNil, sIf, sSet, sAsg, sPar, sPar3, sRet, sRetN, sExpr, sBreak, sCont, sSetIx, wVar, wC, wOp, wChain, wTb, wAnd, wOr, wNotT, wAndV, wOrV, wNotV, wIf, wNil, wCons, wTup, wLst, wLstO, wSl, wNoPart, wPart, wCB, wNeg, wOrT, wTruth, wJoin, wLc, sFor, wipeE, wKw, wYes, wCall, wCallO, wApp, iL, iT, iR1, iR2, iZ, iS, gN, gsNil, gsCons, gTn, endsOf, retR_d, retR_o, sFrz, frz_d, frz_o0, frz_o1, frz_o10, tru_l, tru_t, tru_b, tru_i, tru_n, List.eraseIdx_cons_zero, List.eraseIdx_cons_succ, exists_eq', exists_eq, shf_d, bck_d, toC_nil, toC_d, toC_o, ds_nil, ds_cons, dats_nil, dats_d, dat_d, dat_o0, dat_o1, dat_o2, startE, kg, cutE, cut1_d, cut1_n, cut1_o0, cut1_o1, zipA,
  dAdd_i, dI0_i, dMod_i, dFdiv_i, dPow_i, dLt_i, dLe_i, dGt_i, dGe_i, dLt_s, dLe_s, dGt_s, dGe_s, dEq_i, dEq_s, dEq_b, dEq_is, dEq_si, dEq_ni, dEq_in, dEq_sn, dEq_ns, dNe_i, dNe_s, dNe_b, dNe_is, dNe_si, dNe_ni, dNe_in, dIs_b, dIs_n, dIsNot_b, dIsNot_n, dIx_l, dIx_t, dSl_l, dSl_t, dEq_ti, dEq_li, D.isN, atI_0, atI_1, atI_2, atI_3, atI_4, atI_5, atI_map, map_int_inj, map_str_inj,
  fLen_t, fLen_l, fLen_s, fInt_i, fInt_b, fTup_l, fTup_t, fList_l, fList_t, fMax2_i, fMin2_i, fAbs_i, isi_int_int, isi_int_bool, isi_int_str, isi_int_tup, isi_int_lst, isi_bl_int, isi_bl_bool, isi_bl_str, isi_bl_tup, isi_str_int, isi_str_bool, isi_str_str, isi_str_tup, isi_tup_int, isi_tup_bool, isi_tup_str, isi_tup_tup, isi_lst_int, isi_lst_bool, isi_lst_str, isi_lst_tup, isi_lst_lst, isi_non_int, isi_non_bool, isi_non_str, isi_non_tup, items_t, items_l,
  List.getElem?_cons_zero, List.getElem?_cons_succ, List.set_cons_zero, List.set_cons_succ, List.map_cons, List.map_nil, List.length_cons, List.length_nil, List.cons_append, List.nil_append, List.append_nil, List.replicate_succ, List.replicate_zero, Nat.reduceAdd, Nat.reduceSub, List.head?_cons, List.tail_cons, List.take_succ_cons, List.take_zero, List.take_nil,
  Option.some.injEq, Option.map_some, Option.map_none, exists_eq_left', exists_eq_left, Rv.d.injEq, Rv.o.injEq, D.int.injEq, D.bl.injEq, D.str.injEq, D.tup.injEq, D.lst.injEq, MO.lst.injEq, List.cons.injEq, and_true, true_and, and_assoc, exists_and_left, decide_eq_true_eq, if_true, Bool.true_eq_false, Bool.false_eq_true, if_false, reduceIte, Bool.not_true, Bool.not_false, eq_self, exists_const, List.filterMap_cons_some, List.filterMap_nil, List.filterMap_cons, and_self, CMul_iff, or_true, true_or, Int.reduceLT, Int.reduceLE, Int.reduceToNat, Int.reduceNeg, Int.reduceSub, Int.reduceAdd, Int.reducePow, Nat.reducePow, Int.reduceMul, ixN_def, Int.cast_ofNat_Int, Int.reduceEq, decide_true, decide_false, dMul_i, dPow_i, strD, reduceCtorEq, ite_true, ite_false, Nat.reduceLT, Nat.reduceLeDiff, Int.reduceAbs, false_and, and_false, or_false, false_or, exists_false]; exact h
  | lst a => simp only [sSeq, sNil, sIf, sSet, sAsg, sPar, sPar3, sRet, sRetN, sExpr, sBreak, sCont, sSetIx, wVar, wC, wOp, wChain, wTb, wAnd, wOr, wNotT, wAndV, wOrV, wNotV, wIf, wNil, wCons, wTup, wLst, wLstO, wSl, wNoPart, wPart, wCB, wNeg, wOrT, wTruth, wJoin, wLc, sFor, wipeE, wKw, wYes, wCall, wCallO, wApp, iL, iT, iR1, iR2, iZ, iS, gN, gsNil, gsCons, gTn, endsOf, retR_d, retR_o, sFrz, frz_d, frz_o0, frz_o1, frz_o10, tru_l, tru_t, tru_b, tru_i, tru_n, List.eraseIdx_cons_zero, List.eraseIdx_cons_succ, exists_eq', exists_eq, shf_d, bck_d, toC_nil, toC_d, toC_o, ds_nil, ds_cons, dats_nil, dats_d, dat_d, dat_o0, dat_o1, dat_o2, startE, kg, cutE, cut1_d, cut1_n, cut1_o0, cut1_o1, zipA,
  dAdd_i, dI0_i, dMod_i, dFdiv_i, dPow_i, dLt_i, dLe_i, dGt_i, dGe_i, dLt_s, dLe_s, dGt_s, dGe_s, dEq_i, dEq_s, dEq_b, dEq_is, dEq_si, dEq_ni, dEq_in, dEq_sn, dEq_ns, dNe_i, dNe_s, dNe_b, dNe_is, dNe_si, dNe_ni, dNe_in, dIs_b, dIs_n, dIsNot_b, dIsNot_n, dIx_l, dIx_t, dSl_l, dSl_t, dEq_ti, dEq_li, D.isN, atI_0, atI_1, atI_2, atI_3, atI_4, atI_5, atI_map, map_int_inj, map_str_inj,
  fLen_t, fLen_l, fLen_s, fInt_i, fInt_b, fTup_l, fTup_t, fList_l, fList_t, fMax2_i, fMin2_i, fAbs_i, isi_int_int, isi_int_bool, isi_int_str, isi_int_tup, isi_int_lst, isi_bl_int, isi_bl_bool, isi_bl_str, isi_bl_tup, isi_str_int, isi_str_bool, isi_str_str, isi_str_tup, isi_tup_int, isi_tup_bool, isi_tup_str, isi_tup_tup, isi_lst_int, isi_lst_bool, isi_lst_str, isi_lst_tup, isi_lst_lst, isi_non_int, isi_non_bool, isi_non_str, isi_non_tup, items_t, items_l,
  List.getElem?_cons_zero, List.getElem?_cons_succ, List.set_cons_zero, List.set_cons_succ, List.map_cons, List.map_nil, List.length_cons, List.length_nil, List.cons_append, List.nil_append, List.append_nil, List.replicate_succ, List.replicate_zero, Nat.reduceAdd, Nat.reduceSub, List.head?_cons, List.tail_cons, List.take_succ_cons, List.take_zero, List.take_nil,
  Option.some.injEq, Option.map_some, Option.map_none, exists_eq_left', exists_eq_left, Rv.d.injEq, Rv.o.injEq, D.int.injEq, D.bl.injEq, D.str.injEq, D.tup.injEq, D.lst.injEq, MO.lst.injEq, List.cons.injEq, and_true, true_and, and_assoc, exists_and_left, decide_eq_true_eq, if_true, Bool.true_eq_false, Bool.false_eq_true, if_false, reduceIte, Bool.not_true, Bool.not_false, eq_self, exists_const, List.filterMap_cons_some, List.filterMap_nil, List.filterMap_cons, and_self, CMul_iff, or_true, true_or, Int.reduceLT, Int.reduceLE, Int.reduceToNat, Int.reduceNeg, Int.reduceSub, Int.reduceAdd, Int.reducePow, Nat.reducePow, Int.reduceMul, ixN_def, Int.cast_ofNat_Int, Int.reduceEq, decide_true, decide_false, dMul_i, dPow_i, strD, reduceCtorEq, ite_true, ite_false, Nat.reduceLT, Nat.reduceLeDiff, Int.reduceAbs, false_and, and_false, or_false, false_or, exists_false]; exact h
  | _ => cases hk
end Lk00
set_option Elab.async false
set_option linter.all false
set_option maxRecDepth 100000
set_option maxHeartbeats 4000000
namespace Lk00
open PySem PySem.Spec PyProof.Rows L2 Dw
def c_is_open_name : Ct := fun rs M R => ∃ x, rs = [.d x] ∧ M = [] ∧ Known x ∧ (∀ s, x = .str s → s.length ≤ 1000) ∧ R (.d (.bl (isWord 65 90 x))) []
theorem ln_is_open_name : ∀ rs M R, c_is_open_name rs M R → rs.length = 1 ∧ M.length = 0 := by
  rintro rs M R ⟨x, rfl, rfl, _⟩; exact ⟨rfl, rfl⟩
set_option maxHeartbeats 8000000 in
theorem ok_is_open_name {P : Program} {w : World} {K : PySem.W.Frag} {mg : Str → Option Value} {base : Heap} (T : Tx K mg) : FnOk P w K mg base CX0 1 T.a_is_open_name T.fd_is_open_name ["thing"] (spD K c_is_open_name) := by
  refine fnD (n0 := 0) T.F_is_open_name sc_is_open_name ln_is_open_name fun cdv A outer s H E hr => ⟨_, (qss_cons (qs_if (QW.t (qw_or (qt_not (qt_val (qe_isi (by rfl) T.n_isinstance (qa_cons (qv 0) (qa_cons (qe_ty (by rfl) T.n_str boot_str) qa_nil))))) (qw_or1 (qt_not (qt_chain or_le op2_le or_le op2_le qe_int (qe_len (by rfl) T.n_len (qa_cons (qv 0) qa_nil)) qe_int))))) (qss_one (qs_ret qe_bl)) qss_nil) (qss_one (qs_ret (qe_all rfl (by rfl) T.n_all (qa_cons (qe_lc rfl sc_is_open_name.nd (qi_str (qv 0)) (blkOk_by (own := [("sign", 1)]) (N := ["thing", "sign"]) (sc := defScope s_is_open_name) (by decide +kernel)) (by decide) (fun _ _ _ _ _ => (qg_name (i := 1) sc_is_open_name.nd rfl (by first | exact .inl rfl | exact .inr rfl))) (fun _ _ _ _ _ => qts_nil) (fun _ _ _ _ _ => (qe_chain or_le op2_le or_le op2_le qe_str (qv 1) qe_str))) qa_nil))))), fun rs M R h => ?_⟩
  obtain ⟨x, rfl, rfl, ⟨k, hk⟩, hs, h⟩ := h
  cases x with
  | str s =>
    have hl := hs s rfl
    simp only [isWord] at h
    simp only [sSeq, sNil, sIf, sSet, sAsg, sPar, sPar3, sRet, sRetN, sExpr, sBreak, sCont, sSetIx, wVar, wC, wOp, wChain, wTb, wAnd, wOr, wNotT, wAndV, wOrV, wNotV, wIf, wNil, wCons, wTup, wLst, wLstO, wSl, wNoPart, wPart, wCB, wNeg, wOrT, wTruth, wJoin, wLc, sFor, wipeE, wKw, wYes, wCall, wCallO, wApp, iL, iT, iR1, iR2, iZ, iS, gN, gsNil, gsCons, gTn, endsOf, retR_d, retR_o, sFrz, frz_d, frz_o0, frz_o1, frz_o10, tru_l, tru_t, tru_b, tru_i, tru_n, List.eraseIdx_cons_zero, List.eraseIdx_cons_succ, exists_eq', exists_eq, shf_d, bck_d, toC_nil, toC_d, toC_o, ds_nil, ds_cons, dats_nil, dats_d, dat_d, dat_o0, dat_o1, dat_o2, startE, kg, cutE, cut1_d, cut1_n, cut1_o0, cut1_o1, zipA,
  dAdd_i, dI0_i, dMod_i, dFdiv_i, dPow_i, dLt_i, dLe_i, dGt_i, dGe_i, dLt_s, dLe_s, dGt_s, dGe_s, dEq_i, dEq_s, dEq_b, dEq_is, dEq_si, dEq_ni, dEq_in, dEq_sn, dEq_ns, dNe_i, dNe_s, dNe_b, dNe_is, dNe_si, dNe_ni, dNe_in, dIs_b, dIs_n, dIsNot_b, dIsNot_n, dIx_l, dIx_t, dSl_l, dSl_t, dEq_ti, dEq_li, D.isN, atI_0, atI_1, atI_2, atI_3, atI_4, atI_5, atI_map, map_int_inj, map_str_inj,
  fLen_t, fLen_l, fLen_s, fInt_i, fInt_b, fTup_l, fTup_t, fList_l, fList_t, fMax2_i, fMin2_i, fAbs_i, isi_int_int, isi_int_bool, isi_int_str, isi_int_tup, isi_int_lst, isi_bl_int, isi_bl_bool, isi_bl_str, isi_bl_tup, isi_str_int, isi_str_bool, isi_str_str, isi_str_tup, isi_tup_int, isi_tup_bool, isi_tup_str, isi_tup_tup, isi_lst_int, isi_lst_bool, isi_lst_str, isi_lst_tup, isi_lst_lst, isi_non_int, isi_non_bool, isi_non_str, isi_non_tup, items_t, items_l,
  List.getElem?_cons_zero, List.getElem?_cons_succ, List.set_cons_zero, List.set_cons_succ, List.map_cons, List.map_nil, List.length_cons, List.length_nil, List.cons_append, List.nil_append, List.append_nil, List.replicate_succ, List.replicate_zero, Nat.reduceAdd, Nat.reduceSub, List.head?_cons, List.tail_cons, List.take_succ_cons, List.take_zero, List.take_nil,
  Option.some.injEq, Option.map_some, Option.map_none, exists_eq_left', exists_eq_left, Rv.d.injEq, Rv.o.injEq, D.int.injEq, D.bl.injEq, D.str.injEq, D.tup.injEq, D.lst.injEq, MO.lst.injEq, List.cons.injEq, and_true, true_and, and_assoc, exists_and_left, decide_eq_true_eq, if_true, Bool.true_eq_false, Bool.false_eq_true, if_false, reduceIte, Bool.not_true, Bool.not_false, eq_self, exists_const, List.filterMap_cons_some, List.filterMap_nil, List.filterMap_cons, and_self, CMul_iff, or_true, true_or, Int.reduceLT, Int.reduceLE, Int.reduceToNat, Int.reduceNeg, Int.reduceSub, Int.reduceAdd, Int.reducePow, Nat.reducePow, Int.reduceMul, ixN_def, Int.cast_ofNat_Int, Int.reduceEq, decide_true, decide_false, dMul_i, dPow_i, strD, reduceCtorEq, ite_true, ite_false, Nat.reduceLT, Nat.reduceLeDiff, Int.reduceAbs, false_and, and_false, or_false, false_or, exists_false]
    refine ⟨sz (by omega), ?_⟩
    by_cases h1 : (1 : Int) ≤ (s.length : Int)
    · rw [if_pos h1]
      by_cases h2 : (s.length : Int) ≤ 8
      · simp only [h2, decide_true, Bool.not_true, Bool.false_eq_true, if_false]
        refine ⟨by rw [List.length_map]; exact sz (by show s.cps.toList.length ≤ 10000; rw [Array.length_toList]; exact Nat.le_trans hl (by decide)), lc_map' (fun c => .str ⟨#[c]⟩) (fun c => .bl (decide (65 ≤ c ∧ c ≤ 90))) _ (fun c hc G hG => ?_) ?_⟩
        · simp only [sSeq, sNil, sIf, sSet, sAsg, sPar, sPar3, sRet, sRetN, sExpr, sBreak, sCont, sSetIx, wVar, wC, wOp, wChain, wTb, wAnd, wOr, wNotT, wAndV, wOrV, wNotV, wIf, wNil, wCons, wTup, wLst, wLstO, wSl, wNoPart, wPart, wCB, wNeg, wOrT, wTruth, wJoin, wLc, sFor, wipeE, wKw, wYes, wCall, wCallO, wApp, iL, iT, iR1, iR2, iZ, iS, gN, gsNil, gsCons, gTn, endsOf, retR_d, retR_o, sFrz, frz_d, frz_o0, frz_o1, frz_o10, tru_l, tru_t, tru_b, tru_i, tru_n, List.eraseIdx_cons_zero, List.eraseIdx_cons_succ, exists_eq', exists_eq, shf_d, bck_d, toC_nil, toC_d, toC_o, ds_nil, ds_cons, dats_nil, dats_d, dat_d, dat_o0, dat_o1, dat_o2, startE, kg, cutE, cut1_d, cut1_n, cut1_o0, cut1_o1, zipA,
  dAdd_i, dI0_i, dMod_i, dFdiv_i, dPow_i, dLt_i, dLe_i, dGt_i, dGe_i, dLt_s, dLe_s, dGt_s, dGe_s, dEq_i, dEq_s, dEq_b, dEq_is, dEq_si, dEq_ni, dEq_in, dEq_sn, dEq_ns, dNe_i, dNe_s, dNe_b, dNe_is, dNe_si, dNe_ni, dNe_in, dIs_b, dIs_n, dIsNot_b, dIsNot_n, dIx_l, dIx_t, dSl_l, dSl_t, dEq_ti, dEq_li, D.isN, atI_0, atI_1, atI_2, atI_3, atI_4, atI_5, atI_map, map_int_inj, map_str_inj,
  fLen_t, fLen_l, fLen_s, fInt_i, fInt_b, fTup_l, fTup_t, fList_l, fList_t, fMax2_i, fMin2_i, fAbs_i, isi_int_int, isi_int_bool, isi_int_str, isi_int_tup, isi_int_lst, isi_bl_int, isi_bl_bool, isi_bl_str, isi_bl_tup, isi_str_int, isi_str_bool, isi_str_str, isi_str_tup, isi_tup_int, isi_tup_bool, isi_tup_str, isi_tup_tup, isi_lst_int, isi_lst_bool, isi_lst_str, isi_lst_tup, isi_lst_lst, isi_non_int, isi_non_bool, isi_non_str, isi_non_tup, items_t, items_l,
  List.getElem?_cons_zero, List.getElem?_cons_succ, List.set_cons_zero, List.set_cons_succ, List.map_cons, List.map_nil, List.length_cons, List.length_nil, List.cons_append, List.nil_append, List.append_nil, List.replicate_succ, List.replicate_zero, Nat.reduceAdd, Nat.reduceSub, List.head?_cons, List.tail_cons, List.take_succ_cons, List.take_zero, List.take_nil,
  Option.some.injEq, Option.map_some, Option.map_none, exists_eq_left', exists_eq_left, Rv.d.injEq, Rv.o.injEq, D.int.injEq, D.bl.injEq, D.str.injEq, D.tup.injEq, D.lst.injEq, MO.lst.injEq, List.cons.injEq, and_true, true_and, and_assoc, exists_and_left, decide_eq_true_eq, if_true, Bool.true_eq_false, Bool.false_eq_true, if_false, reduceIte, Bool.not_true, Bool.not_false, eq_self, exists_const, List.filterMap_cons_some, List.filterMap_nil, List.filterMap_cons, and_self, CMul_iff, or_true, true_or, Int.reduceLT, Int.reduceLE, Int.reduceToNat, Int.reduceNeg, Int.reduceSub, Int.reduceAdd, Int.reducePow, Nat.reducePow, Int.reduceMul, ixN_def, Int.cast_ofNat_Int, Int.reduceEq, decide_true, decide_false, dMul_i, dPow_i, strD, reduceCtorEq, ite_true, ite_false, Nat.reduceLT, Nat.reduceLeDiff, Int.reduceAbs, false_and, and_false, or_false, false_or, exists_false, show (Str.ofString "A").cps.toList = [65] from rfl, show (Str.ofString "Z").cps.toList = [90] from rfl, letter_le]
          by_cases h3 : 65 ≤ c
          · rw [if_pos h3]
            have e : decide (c ≤ 90) = decide (65 ≤ c ∧ c ≤ 90) := by rw [decide_eq_decide]; omega
            rw [e]; exact hG
          · rw [if_neg h3]
            have e : decide (65 ≤ c ∧ c ≤ 90) = false := decide_eq_false (by omega)
            rw [e] at hG; exact hG
        · refine ⟨_, fAll_map, ?_⟩
          have e : decide (1 ≤ s.length ∧ s.length ≤ 8) = true := decide_eq_true (by omega)
          rw [e, Bool.true_and] at h
          exact h
      · simp only [h2, decide_false, Bool.not_false, if_true]
        have e : decide (1 ≤ s.length ∧ s.length ≤ 8) = false := decide_eq_false (by omega)
        rw [e, Bool.false_and] at h; exact h
    · rw [if_neg h1]
      have e : decide (1 ≤ s.length ∧ s.length ≤ 8) = false := decide_eq_false (by omega)
      rw [e, Bool.false_and] at h
      exact h
  | non => simp only [sSeq, sNil, sIf, sSet, sAsg, sPar, sPar3, sRet, sRetN, sExpr, sBreak, sCont, sSetIx, wVar, wC, wOp, wChain, wTb, wAnd, wOr, wNotT, wAndV, wOrV, wNotV, wIf, wNil, wCons, wTup, wLst, wLstO, wSl, wNoPart, wPart, wCB, wNeg, wOrT, wTruth, wJoin, wLc, sFor, wipeE, wKw, wYes, wCall, wCallO, wApp, iL, iT, iR1, iR2, iZ, iS, gN, gsNil, gsCons, gTn, endsOf, retR_d, retR_o, sFrz, frz_d, frz_o0, frz_o1, frz_o10, tru_l, tru_t, tru_b, tru_i, tru_n, List.eraseIdx_cons_zero, List.eraseIdx_cons_succ, exists_eq', exists_eq, shf_d, bck_d, toC_nil, toC_d, toC_o, ds_nil, ds_cons, dats_nil, dats_d, dat_d, dat_o0, dat_o1, dat_o2, startE, kg, cutE, cut1_d, cut1_n, cut1_o0, cut1_o1, zipA,
  dAdd_i, dI0_i, dMod_i, dFdiv_i, dPow_i, dLt_i, dLe_i, dGt_i, dGe_i, dLt_s, dLe_s, dGt_s, dGe_s, dEq_i, dEq_s, dEq_b, dEq_is, dEq_si, dEq_ni, dEq_in, dEq_sn, dEq_ns, dNe_i, dNe_s, dNe_b, dNe_is, dNe_si, dNe_ni, dNe_in, dIs_b, dIs_n, dIsNot_b, dIsNot_n, dIx_l, dIx_t, dSl_l, dSl_t, dEq_ti, dEq_li, D.isN, atI_0, atI_1, atI_2, atI_3, atI_4, atI_5, atI_map, map_int_inj, map_str_inj,
  fLen_t, fLen_l, fLen_s, fInt_i, fInt_b, fTup_l, fTup_t, fList_l, fList_t, fMax2_i, fMin2_i, fAbs_i, isi_int_int, isi_int_bool, isi_int_str, isi_int_tup, isi_int_lst, isi_bl_int, isi_bl_bool, isi_bl_str, isi_bl_tup, isi_str_int, isi_str_bool, isi_str_str, isi_str_tup, isi_tup_int, isi_tup_bool, isi_tup_str, isi_tup_tup, isi_lst_int, isi_lst_bool, isi_lst_str, isi_lst_tup, isi_lst_lst, isi_non_int, isi_non_bool, isi_non_str, isi_non_tup, items_t, items_l,
  List.getElem?_cons_zero, List.getElem?_cons_succ, List.set_cons_zero, List.set_cons_succ, List.map_cons, List.map_nil, List.length_cons, List.length_nil, List.cons_append, List.nil_append, List.append_nil, List.replicate_succ, List.replicate_zero, Nat.reduceAdd, Nat.reduceSub, List.head?_cons, List.tail_cons, List.take_succ_cons, List.take_zero, List.take_nil,
  Option.some.injEq, Option.map_some, Option.map_none, exists_eq_left', exists_eq_left, Rv.d.injEq, Rv.o.injEq, D.int.injEq, D.bl.injEq, D.str.injEq, D.tup.injEq, D.lst.injEq, MO.lst.injEq, List.cons.injEq, and_true, true_and, and_assoc, exists_and_left, decide_eq_true_eq, if_true, Bool.true_eq_false, Bool.false_eq_true, if_false, reduceIte, Bool.not_true, Bool.not_false, eq_self, exists_const, List.filterMap_cons_some, List.filterMap_nil, List.filterMap_cons, and_self, CMul_iff, or_true, true_or, Int.reduceLT, Int.reduceLE, Int.reduceToNat, Int.reduceNeg, Int.reduceSub, Int.reduceAdd, Int.reducePow, Nat.reducePow, Int.reduceMul, ixN_def, Int.cast_ofNat_Int, Int.reduceEq, decide_true, decide_false, dMul_i, dPow_i, strD, reduceCtorEq, ite_true, ite_false, Nat.reduceLT, Nat.reduceLeDiff, Int.reduceAbs, false_and, and_false, or_false, false_or, exists_false]; exact h
  | bl b => simp only [sSeq, sNil, sIf, sSet, sAsg, sPar, sPar3, sRet, sRetN, sExpr, sBreak, sCont, sSetIx, wVar, wC, wOp, wChain, wTb, wAnd, wOr, wNotT, wAndV, wOrV, wNotV, wIf, wNil, wCons, wTup, wLst, wLstO, wSl, wNoPart, wPart, wCB, wNeg, wOrT, wTruth, wJoin, wLc, sFor, wipeE, wKw, wYes, wCall, wCallO, wApp, iL, iT, iR1, iR2, iZ, iS, gN, gsNil, gsCons, gTn, endsOf, retR_d, retR_o, sFrz, frz_d, frz_o0, frz_o1, frz_o10, tru_l, tru_t, tru_b, tru_i, tru_n, List.eraseIdx_cons_zero, List.eraseIdx_cons_succ, exists_eq', exists_eq, shf_d, bck_d, toC_nil, toC_d, toC_o, ds_nil, ds_cons, dats_nil, dats_d, dat_d, dat_o0, dat_o1, dat_o2, startE, kg, cutE, cut1_d, cut1_n, cut1_o0, cut1_o1, zipA,
  dAdd_i, dI0_i, dMod_i, dFdiv_i, dPow_i, dLt_i, dLe_i, dGt_i, dGe_i, dLt_s, dLe_s, dGt_s, dGe_s, dEq_i, dEq_s, dEq_b, dEq_is, dEq_si, dEq_ni, dEq_in, dEq_sn, dEq_ns, dNe_i, dNe_s, dNe_b, dNe_is, dNe_si, dNe_ni, dNe_in, dIs_b, dIs_n, dIsNot_b, dIsNot_n, dIx_l, dIx_t, dSl_l, dSl_t, dEq_ti, dEq_li, D.isN, atI_0, atI_1, atI_2, atI_3, atI_4, atI_5, atI_map, map_int_inj, map_str_inj,
  fLen_t, fLen_l, fLen_s, fInt_i, fInt_b, fTup_l, fTup_t, fList_l, fList_t, fMax2_i, fMin2_i, fAbs_i, isi_int_int, isi_int_bool, isi_int_str, isi_int_tup, isi_int_lst, isi_bl_int, isi_bl_bool, isi_bl_str, isi_bl_tup, isi_str_int, isi_str_bool, isi_str_str, isi_str_tup, isi_tup_int, isi_tup_bool, isi_tup_str, isi_tup_tup, isi_lst_int, isi_lst_bool, isi_lst_str, isi_lst_tup, isi_lst_lst, isi_non_int, isi_non_bool, isi_non_str, isi_non_tup, items_t, items_l,
  List.getElem?_cons_zero, List.getElem?_cons_succ, List.set_cons_zero, List.set_cons_succ, List.map_cons, List.map_nil, List.length_cons, List.length_nil, List.cons_append, List.nil_append, List.append_nil, List.replicate_succ, List.replicate_zero, Nat.reduceAdd, Nat.reduceSub, List.head?_cons, List.tail_cons, List.take_succ_cons, List.take_zero, List.take_nil,
  Option.some.injEq, Option.map_some, Option.map_none, exists_eq_left', exists_eq_left, Rv.d.injEq, Rv.o.injEq, D.int.injEq, D.bl.injEq, D.str.injEq, D.tup.injEq, D.lst.injEq, MO.lst.injEq, List.cons.injEq, and_true, true_and, and_assoc, exists_and_left, decide_eq_true_eq, if_true, Bool.true_eq_false, Bool.false_eq_true, if_false, reduceIte, Bool.not_true, Bool.not_false, eq_self, exists_const, List.filterMap_cons_some, List.filterMap_nil, List.filterMap_cons, and_self, CMul_iff, or_true, true_or, Int.reduceLT, Int.reduceLE, Int.reduceToNat, Int.reduceNeg, Int.reduceSub, Int.reduceAdd, Int.reducePow, Nat.reducePow, Int.reduceMul, ixN_def, Int.cast_ofNat_Int, Int.reduceEq, decide_true, decide_false, dMul_i, dPow_i, strD, reduceCtorEq, ite_true, ite_false, Nat.reduceLT, Nat.reduceLeDiff, Int.reduceAbs, false_and, and_false, or_false, false_or, exists_false]; exact h
  | int i => simp only [sSeq, sNil, sIf, sSet, sAsg, sPar, sPar3, sRet, sRetN, sExpr, sBreak, sCont, sSetIx, wVar, wC, wOp, wChain, wTb, wAnd, wOr, wNotT, wAndV, wOrV, wNotV, wIf, wNil, wCons, wTup, wLst, wLstO, wSl, wNoPart, wPart, wCB, wNeg, wOrT, wTruth, wJoin, wLc, sFor, wipeE, wKw, wYes, wCall, wCallO, wApp, iL, iT, iR1, iR2, iZ, iS, gN, gsNil, gsCons, gTn, endsOf, retR_d, retR_o, sFrz, frz_d, frz_o0, frz_o1, frz_o10, tru_l, tru_t, tru_b, tru_i, tru_n, List.eraseIdx_cons_zero, List.eraseIdx_cons_succ, exists_eq', exists_eq, shf_d, bck_d, toC_nil, toC_d, toC_o, ds_nil, ds_cons, dats_nil, dats_d, dat_d, dat_o0, dat_o1, dat_o2, startE, kg, cutE, cut1_d, cut1_n, cut1_o0, cut1_o1, zipA,
  dAdd_i, dI0_i, dMod_i, dFdiv_i, dPow_i, dLt_i, dLe_i, dGt_i, dGe_i, dLt_s, dLe_s, dGt_s, dGe_s, dEq_i, dEq_s, dEq_b, dEq_is, dEq_si, dEq_ni, dEq_in, dEq_sn, dEq_ns, dNe_i, dNe_s, dNe_b, dNe_is, dNe_si, dNe_ni, dNe_in, dIs_b, dIs_n, dIsNot_b, dIsNot_n, dIx_l, dIx_t, dSl_l, dSl_t, dEq_ti, dEq_li, D.isN, atI_0, atI_1, atI_2, atI_3, atI_4, atI_5, atI_map, map_int_inj, map_str_inj,
  fLen_t, fLen_l, fLen_s, fInt_i, fInt_b, fTup_l, fTup_t, fList_l, fList_t, fMax2_i, fMin2_i, fAbs_i, isi_int_int, isi_int_bool, isi_int_str, isi_int_tup, isi_int_lst, isi_bl_int, isi_bl_bool, isi_bl_str, isi_bl_tup, isi_str_int, isi_str_bool, isi_str_str, isi_str_tup, isi_tup_int, isi_tup_bool, isi_tup_str, isi_tup_tup, isi_lst_int, isi_lst_bool, isi_lst_str, isi_lst_tup, isi_lst_lst, isi_non_int, isi_non_bool, isi_non_str, isi_non_tup, items_t, items_l,
  List.getElem?_cons_zero, List.getElem?_cons_succ, List.set_cons_zero, List.set_cons_succ, List.map_cons, List.map_nil, List.length_cons, List.length_nil, List.cons_append, List.nil_append, List.append_nil, List.replicate_succ, List.replicate_zero, Nat.reduceAdd, Nat.reduceSub, List.head?_cons, List.tail_cons, List.take_succ_cons, List.take_zero, List.take_nil,
  Option.some.injEq, Option.map_some, Option.map_none, exists_eq_left', exists_eq_left, Rv.d.injEq, Rv.o.injEq, D.int.injEq, D.bl.injEq, D.str.injEq, D.tup.injEq, D.lst.injEq, MO.lst.injEq, List.cons.injEq, and_true, true_and, and_assoc, exists_and_left, decide_eq_true_eq, if_true, Bool.true_eq_false, Bool.false_eq_true, if_false, reduceIte, Bool.not_true, Bool.not_false, eq_self, exists_const, List.filterMap_cons_some, List.filterMap_nil, List.filterMap_cons, and_self, CMul_iff, or_true, true_or, Int.reduceLT, Int.reduceLE, Int.reduceToNat, Int.reduceNeg, Int.reduceSub, Int.reduceAdd, Int.reducePow, Nat.reducePow, Int.reduceMul, ixN_def, Int.cast_ofNat_Int, Int.reduceEq, decide_true, decide_false, dMul_i, dPow_i, strD, reduceCtorEq, ite_true, ite_false, Nat.reduceLT, Nat.reduceLeDiff, Int.reduceAbs, false_and, and_false, or_false, false_or, exists_false]; exact h
  | tup a => simp only [sSeq, sNil, sIf, sSet, sAsg, sPar, sPar3, sRet, sRetN, sExpr, sBreak, sCont, sSetIx, wVar, wC, wOp, wChain, wTb, wAnd, wOr, wNotT, wAndV, wOrV, wNotV, wIf, wNil, wCons, wTup, wLst, wLstO, wSl, wNoPart, wPart, wCB, wNeg, wOrT, wTruth, wJoin, wLc, sFor, wipeE, wKw, wYes, wCall, wCallO, wApp, iL, iT, iR1, iR2, iZ, iS, gN, gsNil, gsCons, gTn, endsOf, retR_d, retR_o, sFrz, frz_d, frz_o0, frz_o1, frz_o10, tru_l, tru_t, tru_b, tru_i, tru_n, List.eraseIdx_cons_zero, List.eraseIdx_cons_succ, exists_eq', exists_eq, shf_d, bck_d, toC_nil, toC_d, toC_o, ds_nil, ds_cons, dats_nil, dats_d, dat_d, dat_o0, dat_o1, dat_o2, startE, kg, cutE, cut1_d, cut1_n, cut1_o0, cut1_o1, zipA,
  dAdd_i, dI0_i, dMod_i, dFdiv_i, dPow_i, dLt_i, dLe_i, dGt_i, dGe_i, dLt_s, dLe_s, dGt_s, dGe_s, dEq_i, dEq_s, dEq_b, dEq_is, dEq_si, dEq_ni, dEq_in, dEq_sn, dEq_ns, dNe_i, dNe_s, dNe_b, dNe_is, dNe_si, dNe_ni, dNe_in, dIs_b, dIs_n, dIsNot_b, dIsNot_n, dIx_l, dIx_t, dSl_l, dSl_t, dEq_ti, dEq_li, D.isN, atI_0, atI_1, atI_2, atI_3, atI_4, atI_5, atI_map, map_int_inj, map_str_inj,
  fLen_t, fLen_l, fLen_s, fInt_i, fInt_b, fTup_l, fTup_t, fList_l, fList_t, fMax2_i, fMin2_i, fAbs_i, isi_int_int, isi_int_bool, isi_int_str, isi_int_tup, isi_int_lst, isi_bl_int, isi_bl_bool, isi_bl_str, isi_bl_tup, isi_str_int, isi_str_bool, isi_str_str, isi_str_tup, isi_tup_int, isi_tup_bool, isi_tup_str, isi_tup_tup, isi_lst_int, isi_lst_bool, isi_lst_str, isi_lst_tup, isi_lst_lst, isi_non_int, isi_non_bool, isi_non_str, isi_non_tup, items_t, items_l,
  List.getElem?_cons_zero, List.getElem?_cons_succ, List.set_cons_zero, List.set_cons_succ, List.map_cons, List.map_nil, List.length_cons, List.length_nil, List.cons_append, List.nil_append, List.append_nil, List.replicate_succ, List.replicate_zero, Nat.reduceAdd, Nat.reduceSub, List.head?_cons, List.tail_cons, List.take_succ_cons, List.take_zero, List.take_nil,
  Option.some.injEq, Option.map_some, Option.map_none, exists_eq_left', exists_eq_left, Rv.d.injEq, Rv.o.injEq, D.int.injEq, D.bl.injEq, D.str.injEq, D.tup.injEq, D.lst.injEq, MO.lst.injEq, List.cons.injEq, and_true, true_and, and_assoc, exists_and_left, decide_eq_true_eq, if_true, Bool.true_eq_false, Bool.false_eq_true, if_false, reduceIte, Bool.not_true, Bool.not_false, eq_self, exists_const, List.filterMap_cons_some, List.filterMap_nil, List.filterMap_cons, and_self, CMul_iff, or_true, true_or, Int.reduceLT, Int.reduceLE, Int.reduceToNat, Int.reduceNeg, Int.reduceSub, Int.reduceAdd, Int.reducePow, Nat.reducePow, Int.reduceMul, ixN_def, Int.cast_ofNat_Int, Int.reduceEq, decide_true, decide_false, dMul_i, dPow_i, strD, reduceCtorEq, ite_true, ite_false, Nat.reduceLT, Nat.reduceLeDiff, Int.reduceAbs, false_and, and_false, or_false, false_or, exists_false]; exact h
  | lst a => simp only [sSeq, sNil, sIf, sSet, sAsg, sPar, sPar3, sRet, sRetN, sExpr, sBreak, sCont, sSetIx, wVar, wC, wOp, wChain, wTb, wAnd, wOr, wNotT, wAndV, wOrV, wNotV, wIf, wNil, wCons, wTup, wLst, wLstO, wSl, wNoPart, wPart, wCB, wNeg, wOrT, wTruth, wJoin, wLc, sFor, wipeE, wKw, wYes, wCall, wCallO, wApp, iL, iT, iR1, iR2, iZ, iS, gN, gsNil, gsCons, gTn, endsOf, retR_d, retR_o, sFrz, frz_d, frz_o0, frz_o1, frz_o10, tru_l, tru_t, tru_b, tru_i, tru_n, List.eraseIdx_cons_zero, List.eraseIdx_cons_succ, exists_eq', exists_eq, shf_d, bck_d, toC_nil, toC_d, toC_o, ds_nil, ds_cons, dats_nil, dats_d, dat_d, dat_o0, dat_o1, dat_o2, startE, kg, cutE, cut1_d, cut1_n, cut1_o0, cut1_o1, zipA,
  dAdd_i, dI0_i, dMod_i, dFdiv_i, dPow_i, dLt_i, dLe_i, dGt_i, dGe_i, dLt_s, dLe_s, dGt_s, dGe_s, dEq_i, dEq_s, dEq_b, dEq_is, dEq_si, dEq_ni, dEq_in, dEq_sn, dEq_ns, dNe_i, dNe_s, dNe_b, dNe_is, dNe_si, dNe_ni, dNe_in, dIs_b, dIs_n, dIsNot_b, dIsNot_n, dIx_l, dIx_t, dSl_l, dSl_t, dEq_ti, dEq_li, D.isN, atI_0, atI_1, atI_2, atI_3, atI_4, atI_5, atI_map, map_int_inj, map_str_inj,
  fLen_t, fLen_l, fLen_s, fInt_i, fInt_b, fTup_l, fTup_t, fList_l, fList_t, fMax2_i, fMin2_i, fAbs_i, isi_int_int, isi_int_bool, isi_int_str, isi_int_tup, isi_int_lst, isi_bl_int, isi_bl_bool, isi_bl_str, isi_bl_tup, isi_str_int, isi_str_bool, isi_str_str, isi_str_tup, isi_tup_int, isi_tup_bool, isi_tup_str, isi_tup_tup, isi_lst_int, isi_lst_bool, isi_lst_str, isi_lst_tup, isi_lst_lst, isi_non_int, isi_non_bool, isi_non_str, isi_non_tup, items_t, items_l,
  List.getElem?_cons_zero, List.getElem?_cons_succ, List.set_cons_zero, List.set_cons_succ, List.map_cons, List.map_nil, List.length_cons, List.length_nil, List.cons_append, List.nil_append, List.append_nil, List.replicate_succ, List.replicate_zero, Nat.reduceAdd, Nat.reduceSub, List.head?_cons, List.tail_cons, List.take_succ_cons, List.take_zero, List.take_nil,
  Option.some.injEq, Option.map_some, Option.map_none, exists_eq_left', exists_eq_left, Rv.d.injEq, Rv.o.injEq, D.int.injEq, D.bl.injEq, D.str.injEq, D.tup.injEq, D.lst.injEq, MO.lst.injEq, List.cons.injEq, and_true, true_and, and_assoc, exists_and_left, decide_eq_true_eq, if_true, Bool.true_eq_false, Bool.false_eq_true, if_false, reduceIte, Bool.not_true, Bool.not_false, eq_self, exists_const, List.filterMap_cons_some, List.filterMap_nil, List.filterMap_cons, and_self, CMul_iff, or_true, true_or, Int.reduceLT, Int.reduceLE, Int.reduceToNat, Int.reduceNeg, Int.reduceSub, Int.reduceAdd, Int.reducePow, Nat.reducePow, Int.reduceMul, ixN_def, Int.cast_ofNat_Int, Int.reduceEq, decide_true, decide_false, dMul_i, dPow_i, strD, reduceCtorEq, ite_true, ite_false, Nat.reduceLT, Nat.reduceLeDiff, Int.reduceAbs, false_and, and_false, or_false, false_or, exists_false]; exact h
  | _ => cases hk
end Lk00
set_option Elab.async false
set_option linter.all false
set_option maxRecDepth 100000
set_option maxHeartbeats 4000000
namespace Lk00
open PySem PySem.Spec PyProof.Rows L2 Dw
def c_is_rising : Ct := fun rs M R => ∃ ns : List Int, rs = [.d (.tup (ns.map .int))] ∧ M = [] ∧ ns.length ≤ 1000 ∧ R (.d (.bl (rising ns))) []
theorem ln_is_rising : ∀ rs M R, c_is_rising rs M R → rs.length = 1 ∧ M.length = 0 := by
  rintro rs M R ⟨x, rfl, rfl, _⟩; exact ⟨rfl, rfl⟩
set_option maxHeartbeats 8000000 in
theorem ok_is_rising {P : Program} {w : World} {K : PySem.W.Frag} {mg : Str → Option Value} {base : Heap} (T : Tx K mg) : FnOk P w K mg base CX0 1 T.a_is_rising T.fd_is_rising ["things"] (spD K c_is_rising) := by
  refine fnD (n0 := 0) T.F_is_rising sc_is_rising ln_is_rising fun cdv A outer s H E hr => ⟨_, (qss_one (qs_ret (qe_all rfl (by rfl) T.n_all (qa_cons (qe_lc rfl sc_is_rising.nd (qi_zip (by rfl) T.n_zip (qa_cons (qv 0) (qa_cons (qe_sl (qv 0) (qo_some qe_int) qo_none) qa_nil))) (blkOk_by (own := [("one", 1), ("other", 2)]) (N := ["things", "one", "other"]) (sc := defScope s_is_rising) (by decide +kernel)) (by decide) (fun _ _ _ _ _ => (qg_tupn (n := 2) rfl (qgs_cons (qg_name (i := 1) sc_is_rising.nd rfl (by first | exact .inl rfl | exact .inr rfl)) (qgs_cons (qg_name (i := 2) sc_is_rising.nd rfl (by first | exact .inl rfl | exact .inr rfl)) qgs_nil)))) (fun _ _ _ _ _ => qts_nil) (fun _ _ _ _ _ => (qe_le (qv 1) (qv 2)))) qa_nil)))), fun rs M R h => ?_⟩
  obtain ⟨ns, rfl, rfl, hl, h⟩ := h
  have e1 : zipD (ns.map .int) (cutD (ns.map .int) (some 1) none) = (ns.zip ns.tail).map fun p => .tup [.int p.1, .int p.2] := by
    rw [cut_map, show (1 : Int) = ((1 : Nat) : Int) from rfl, cut_drop, List.drop_one]
    exact zip_pairs ns ns.tail
  have e2 : rising ns = (ns.zip ns.tail).all fun p => decide (p.1 ≤ p.2) := rising_zip ns
  simp only [sSeq, sNil, sIf, sSet, sAsg, sPar, sPar3, sRet, sRetN, sExpr, sBreak, sCont, sSetIx, wVar, wC, wOp, wChain, wTb, wAnd, wOr, wNotT, wAndV, wOrV, wNotV, wIf, wNil, wCons, wTup, wLst, wLstO, wSl, wNoPart, wPart, wCB, wNeg, wOrT, wTruth, wJoin, wLc, sFor, wipeE, wKw, wYes, wCall, wCallO, wApp, iL, iT, iR1, iR2, iZ, iS, gN, gsNil, gsCons, gTn, endsOf, retR_d, retR_o, sFrz, frz_d, frz_o0, frz_o1, frz_o10, tru_l, tru_t, tru_b, tru_i, tru_n, List.eraseIdx_cons_zero, List.eraseIdx_cons_succ, exists_eq', exists_eq, shf_d, bck_d, toC_nil, toC_d, toC_o, ds_nil, ds_cons, dats_nil, dats_d, dat_d, dat_o0, dat_o1, dat_o2, startE, kg, cutE, cut1_d, cut1_n, cut1_o0, cut1_o1, zipA,
  dAdd_i, dI0_i, dMod_i, dFdiv_i, dPow_i, dLt_i, dLe_i, dGt_i, dGe_i, dLt_s, dLe_s, dGt_s, dGe_s, dEq_i, dEq_s, dEq_b, dEq_is, dEq_si, dEq_ni, dEq_in, dEq_sn, dEq_ns, dNe_i, dNe_s, dNe_b, dNe_is, dNe_si, dNe_ni, dNe_in, dIs_b, dIs_n, dIsNot_b, dIsNot_n, dIx_l, dIx_t, dSl_l, dSl_t, dEq_ti, dEq_li, D.isN, atI_0, atI_1, atI_2, atI_3, atI_4, atI_5, atI_map, map_int_inj, map_str_inj,
  fLen_t, fLen_l, fLen_s, fInt_i, fInt_b, fTup_l, fTup_t, fList_l, fList_t, fMax2_i, fMin2_i, fAbs_i, isi_int_int, isi_int_bool, isi_int_str, isi_int_tup, isi_int_lst, isi_bl_int, isi_bl_bool, isi_bl_str, isi_bl_tup, isi_str_int, isi_str_bool, isi_str_str, isi_str_tup, isi_tup_int, isi_tup_bool, isi_tup_str, isi_tup_tup, isi_lst_int, isi_lst_bool, isi_lst_str, isi_lst_tup, isi_lst_lst, isi_non_int, isi_non_bool, isi_non_str, isi_non_tup, items_t, items_l,
  List.getElem?_cons_zero, List.getElem?_cons_succ, List.set_cons_zero, List.set_cons_succ, List.map_cons, List.map_nil, List.length_cons, List.length_nil, List.cons_append, List.nil_append, List.append_nil, List.replicate_succ, List.replicate_zero, Nat.reduceAdd, Nat.reduceSub, List.head?_cons, List.tail_cons, List.take_succ_cons, List.take_zero, List.take_nil,
  Option.some.injEq, Option.map_some, Option.map_none, exists_eq_left', exists_eq_left, Rv.d.injEq, Rv.o.injEq, D.int.injEq, D.bl.injEq, D.str.injEq, D.tup.injEq, D.lst.injEq, MO.lst.injEq, List.cons.injEq, and_true, true_and, and_assoc, exists_and_left, decide_eq_true_eq, if_true, Bool.true_eq_false, Bool.false_eq_true, if_false, reduceIte, Bool.not_true, Bool.not_false, eq_self, exists_const, List.filterMap_cons_some, List.filterMap_nil, List.filterMap_cons, and_self, CMul_iff, or_true, true_or, Int.reduceLT, Int.reduceLE, Int.reduceToNat, Int.reduceNeg, Int.reduceSub, Int.reduceAdd, Int.reducePow, Nat.reducePow, Int.reduceMul, ixN_def, Int.cast_ofNat_Int, Int.reduceEq, decide_true, decide_false, dMul_i, dPow_i, strD, reduceCtorEq, ite_true, ite_false, Nat.reduceLT, Nat.reduceLeDiff, Int.reduceAbs, false_and, and_false, or_false, false_or, exists_false]
  rw [e1]
  refine ⟨by rw [List.length_map, List.length_zip]; exact sz (by omega), lc_map' (fun p : Int × Int => .tup [.int p.1, .int p.2]) (fun p => .bl (decide (p.1 ≤ p.2))) _ (fun p hp G hG => ?_) ?_⟩
  · simp only [sSeq, sNil, sIf, sSet, sAsg, sPar, sPar3, sRet, sRetN, sExpr, sBreak, sCont, sSetIx, wVar, wC, wOp, wChain, wTb, wAnd, wOr, wNotT, wAndV, wOrV, wNotV, wIf, wNil, wCons, wTup, wLst, wLstO, wSl, wNoPart, wPart, wCB, wNeg, wOrT, wTruth, wJoin, wLc, sFor, wipeE, wKw, wYes, wCall, wCallO, wApp, iL, iT, iR1, iR2, iZ, iS, gN, gsNil, gsCons, gTn, endsOf, retR_d, retR_o, sFrz, frz_d, frz_o0, frz_o1, frz_o10, tru_l, tru_t, tru_b, tru_i, tru_n, List.eraseIdx_cons_zero, List.eraseIdx_cons_succ, exists_eq', exists_eq, shf_d, bck_d, toC_nil, toC_d, toC_o, ds_nil, ds_cons, dats_nil, dats_d, dat_d, dat_o0, dat_o1, dat_o2, startE, kg, cutE, cut1_d, cut1_n, cut1_o0, cut1_o1, zipA,
  dAdd_i, dI0_i, dMod_i, dFdiv_i, dPow_i, dLt_i, dLe_i, dGt_i, dGe_i, dLt_s, dLe_s, dGt_s, dGe_s, dEq_i, dEq_s, dEq_b, dEq_is, dEq_si, dEq_ni, dEq_in, dEq_sn, dEq_ns, dNe_i, dNe_s, dNe_b, dNe_is, dNe_si, dNe_ni, dNe_in, dIs_b, dIs_n, dIsNot_b, dIsNot_n, dIx_l, dIx_t, dSl_l, dSl_t, dEq_ti, dEq_li, D.isN, atI_0, atI_1, atI_2, atI_3, atI_4, atI_5, atI_map, map_int_inj, map_str_inj,
  fLen_t, fLen_l, fLen_s, fInt_i, fInt_b, fTup_l, fTup_t, fList_l, fList_t, fMax2_i, fMin2_i, fAbs_i, isi_int_int, isi_int_bool, isi_int_str, isi_int_tup, isi_int_lst, isi_bl_int, isi_bl_bool, isi_bl_str, isi_bl_tup, isi_str_int, isi_str_bool, isi_str_str, isi_str_tup, isi_tup_int, isi_tup_bool, isi_tup_str, isi_tup_tup, isi_lst_int, isi_lst_bool, isi_lst_str, isi_lst_tup, isi_lst_lst, isi_non_int, isi_non_bool, isi_non_str, isi_non_tup, items_t, items_l,
  List.getElem?_cons_zero, List.getElem?_cons_succ, List.set_cons_zero, List.set_cons_succ, List.map_cons, List.map_nil, List.length_cons, List.length_nil, List.cons_append, List.nil_append, List.append_nil, List.replicate_succ, List.replicate_zero, Nat.reduceAdd, Nat.reduceSub, List.head?_cons, List.tail_cons, List.take_succ_cons, List.take_zero, List.take_nil,
  Option.some.injEq, Option.map_some, Option.map_none, exists_eq_left', exists_eq_left, Rv.d.injEq, Rv.o.injEq, D.int.injEq, D.bl.injEq, D.str.injEq, D.tup.injEq, D.lst.injEq, MO.lst.injEq, List.cons.injEq, and_true, true_and, and_assoc, exists_and_left, decide_eq_true_eq, if_true, Bool.true_eq_false, Bool.false_eq_true, if_false, reduceIte, Bool.not_true, Bool.not_false, eq_self, exists_const, List.filterMap_cons_some, List.filterMap_nil, List.filterMap_cons, and_self, CMul_iff, or_true, true_or, Int.reduceLT, Int.reduceLE, Int.reduceToNat, Int.reduceNeg, Int.reduceSub, Int.reduceAdd, Int.reducePow, Nat.reducePow, Int.reduceMul, ixN_def, Int.cast_ofNat_Int, Int.reduceEq, decide_true, decide_false, dMul_i, dPow_i, strD, reduceCtorEq, ite_true, ite_false, Nat.reduceLT, Nat.reduceLeDiff, Int.reduceAbs, false_and, and_false, or_false, false_or, exists_false]; exact hG
  · refine ⟨_, fAll_map, ?_⟩
    rw [← e2]; exact h
end Lk00
set_option Elab.async false
set_option linter.all false
set_option maxRecDepth 100000
set_option maxHeartbeats 4000000
namespace Lk00
open PySem PySem.Spec PyProof.Rows L2 Dw
def c_at_most : Ct := fun rs M R => ∃ x y, rs = [.d (oi x), .d (oi y)] ∧ M = [] ∧ R (.d (.bl (atMost x y))) []
theorem am_ii {x y : Int} {R : Rv → Mem → Prop} : c_at_most [.d (.int x), .d (.int y)] [] R ↔ R (.d (.bl (decide (x ≤ y)))) [] := by
  constructor
  · rintro ⟨a, b, h, _, hR⟩
    cases a <;> cases b <;> simp [oi] at h
    obtain ⟨rfl, rfl⟩ := h; exact hR
  · intro h; exact ⟨some x, some y, rfl, rfl, h⟩
theorem am_in {x : Int} {R : Rv → Mem → Prop} : c_at_most [.d (.int x), .d .non] [] R ↔ R (.d (.bl true)) [] := by
  constructor
  · rintro ⟨a, b, h, _, hR⟩
    cases a <;> cases b <;> simp [oi] at h
    exact hR
  · intro h; exact ⟨some x, none, rfl, rfl, h⟩
theorem am_ni {y : Int} {R : Rv → Mem → Prop} : c_at_most [.d .non, .d (.int y)] [] R ↔ R (.d (.bl false)) [] := by
  constructor
  · rintro ⟨a, b, h, _, hR⟩
    cases a <;> cases b <;> simp [oi] at h
    exact hR
  · intro h; exact ⟨none, some y, rfl, rfl, h⟩
theorem am_nn {R : Rv → Mem → Prop} : c_at_most [.d .non, .d .non] [] R ↔ R (.d (.bl true)) [] := by
  constructor
  · rintro ⟨a, b, h, _, hR⟩
    cases a <;> cases b <;> simp [oi] at h
    exact hR
  · intro h; exact ⟨none, none, rfl, rfl, h⟩
theorem ln_at_most : ∀ rs M R, c_at_most rs M R → rs.length = 2 ∧ M.length = 0 := by
  rintro rs M R ⟨x, y, rfl, rfl, _⟩; exact ⟨rfl, rfl⟩
set_option maxHeartbeats 8000000 in
theorem ok_at_most {P : Program} {w : World} {K : PySem.W.Frag} {mg : Str → Option Value} {base : Heap} (T : Tx K mg) : FnOk P w K mg base CX0 1 T.a_at_most T.fd_at_most ["one", "other"] (spD K c_at_most) := by
  refine fnD (n0 := 0) T.F_at_most sc_at_most ln_at_most fun cdv A outer s H E hr => ⟨_, (qss_cons (qs_if (QW.t (qw_or (qt_is (qv 0) qe_non) (qw_or1 (qt_is (qv 1) qe_non)))) (qss_one (qs_ret (qe_is (qv 1) qe_non))) qss_nil) (qss_one (qs_ret (qe_le (qv 0) (qv 1))))), fun rs M R h => ?_⟩
  obtain ⟨x, y, rfl, rfl, h⟩ := h
  cases x <;> cases y <;> (simp only [sSeq, sNil, sIf, sSet, sAsg, sPar, sPar3, sRet, sRetN, sExpr, sBreak, sCont, sSetIx, wVar, wC, wOp, wChain, wTb, wAnd, wOr, wNotT, wAndV, wOrV, wNotV, wIf, wNil, wCons, wTup, wLst, wLstO, wSl, wNoPart, wPart, wCB, wNeg, wOrT, wTruth, wJoin, wLc, sFor, wipeE, wKw, wYes, wCall, wCallO, wApp, iL, iT, iR1, iR2, iZ, iS, gN, gsNil, gsCons, gTn, endsOf, retR_d, retR_o, sFrz, frz_d, frz_o0, frz_o1, frz_o10, tru_l, tru_t, tru_b, tru_i, tru_n, List.eraseIdx_cons_zero, List.eraseIdx_cons_succ, exists_eq', exists_eq, shf_d, bck_d, toC_nil, toC_d, toC_o, ds_nil, ds_cons, dats_nil, dats_d, dat_d, dat_o0, dat_o1, dat_o2, startE, kg, cutE, cut1_d, cut1_n, cut1_o0, cut1_o1, zipA,
  dAdd_i, dI0_i, dMod_i, dFdiv_i, dPow_i, dLt_i, dLe_i, dGt_i, dGe_i, dLt_s, dLe_s, dGt_s, dGe_s, dEq_i, dEq_s, dEq_b, dEq_is, dEq_si, dEq_ni, dEq_in, dEq_sn, dEq_ns, dNe_i, dNe_s, dNe_b, dNe_is, dNe_si, dNe_ni, dNe_in, dIs_b, dIs_n, dIsNot_b, dIsNot_n, dIx_l, dIx_t, dSl_l, dSl_t, dEq_ti, dEq_li, D.isN, atI_0, atI_1, atI_2, atI_3, atI_4, atI_5, atI_map, map_int_inj, map_str_inj,
  fLen_t, fLen_l, fLen_s, fInt_i, fInt_b, fTup_l, fTup_t, fList_l, fList_t, fMax2_i, fMin2_i, fAbs_i, isi_int_int, isi_int_bool, isi_int_str, isi_int_tup, isi_int_lst, isi_bl_int, isi_bl_bool, isi_bl_str, isi_bl_tup, isi_str_int, isi_str_bool, isi_str_str, isi_str_tup, isi_tup_int, isi_tup_bool, isi_tup_str, isi_tup_tup, isi_lst_int, isi_lst_bool, isi_lst_str, isi_lst_tup, isi_lst_lst, isi_non_int, isi_non_bool, isi_non_str, isi_non_tup, items_t, items_l,
  List.getElem?_cons_zero, List.getElem?_cons_succ, List.set_cons_zero, List.set_cons_succ, List.map_cons, List.map_nil, List.length_cons, List.length_nil, List.cons_append, List.nil_append, List.append_nil, List.replicate_succ, List.replicate_zero, Nat.reduceAdd, Nat.reduceSub, List.head?_cons, List.tail_cons, List.take_succ_cons, List.take_zero, List.take_nil,
  Option.some.injEq, Option.map_some, Option.map_none, exists_eq_left', exists_eq_left, Rv.d.injEq, Rv.o.injEq, D.int.injEq, D.bl.injEq, D.str.injEq, D.tup.injEq, D.lst.injEq, MO.lst.injEq, List.cons.injEq, and_true, true_and, and_assoc, exists_and_left, decide_eq_true_eq, if_true, Bool.true_eq_false, Bool.false_eq_true, if_false, reduceIte, Bool.not_true, Bool.not_false, eq_self, exists_const, List.filterMap_cons_some, List.filterMap_nil, List.filterMap_cons, and_self, CMul_iff, or_true, true_or, Int.reduceLT, Int.reduceLE, Int.reduceToNat, Int.reduceNeg, Int.reduceSub, Int.reduceAdd, Int.reducePow, Nat.reducePow, Int.reduceMul, ixN_def, Int.cast_ofNat_Int, Int.reduceEq, decide_true, decide_false, dMul_i, dPow_i, strD, reduceCtorEq, ite_true, ite_false, Nat.reduceLT, Nat.reduceLeDiff, Int.reduceAbs, false_and, and_false, or_false, false_or, exists_false, oi]; exact h)
end Lk00
set_option Elab.async false
set_option linter.all false
set_option maxRecDepth 100000
set_option maxHeartbeats 4000000
namespace Lk00
open PySem PySem.Spec PyProof.Rows L2 Dw
def c_least_of : Ct := fun rs M R => ∃ ns : List Int, rs = [.d (.tup (ns.map .int))] ∧ M = [] ∧ R (.d (oi ns.head?)) []
theorem lo_nil {R : Rv → Mem → Prop} : c_least_of [.d (.tup [])] [] R ↔ R (.d .non) [] := by
  constructor
  · rintro ⟨ns, h, _, hR⟩
    cases ns with
    | nil => exact hR
    | cons => simp at h
  · intro h; exact ⟨[], rfl, rfl, h⟩
theorem lo_cons {x : Int} {xs : List Int} {R : Rv → Mem → Prop} : c_least_of [.d (.tup (.int x :: xs.map .int))] [] R ↔ R (.d (.int x)) [] := by
  constructor
  · rintro ⟨ns, h, _, hR⟩
    cases ns with
    | nil => simp at h
    | cons y ys => simp at h; rw [h.1]; exact hR
  · intro h; exact ⟨x :: xs, rfl, rfl, h⟩
theorem ln_least_of : ∀ rs M R, c_least_of rs M R → rs.length = 1 ∧ M.length = 0 := by
  rintro rs M R ⟨x, rfl, rfl, _⟩; exact ⟨rfl, rfl⟩
set_option maxHeartbeats 8000000 in
theorem ok_least_of {P : Program} {w : World} {K : PySem.W.Frag} {mg : Str → Option Value} {base : Heap} (T : Tx K mg) : FnOk P w K mg base CX0 1 T.a_least_of T.fd_least_of ["things"] (spD K c_least_of) := by
  refine fnD (n0 := 0) T.F_least_of sc_least_of ln_least_of fun cdv A outer s H E hr => ⟨_, (qss_one (qs_ret (qe_if (qt_gt (qe_len (by rfl) T.n_len (qa_cons (qv 0) qa_nil)) qe_int) (qe_ix (qv 0) qe_int) qe_non))), fun rs M R h => ?_⟩
  obtain ⟨ns, rfl, rfl, h⟩ := h
  cases ns with
  | nil => simp only [sSeq, sNil, sIf, sSet, sAsg, sPar, sPar3, sRet, sRetN, sExpr, sBreak, sCont, sSetIx, wVar, wC, wOp, wChain, wTb, wAnd, wOr, wNotT, wAndV, wOrV, wNotV, wIf, wNil, wCons, wTup, wLst, wLstO, wSl, wNoPart, wPart, wCB, wNeg, wOrT, wTruth, wJoin, wLc, sFor, wipeE, wKw, wYes, wCall, wCallO, wApp, iL, iT, iR1, iR2, iZ, iS, gN, gsNil, gsCons, gTn, endsOf, retR_d, retR_o, sFrz, frz_d, frz_o0, frz_o1, frz_o10, tru_l, tru_t, tru_b, tru_i, tru_n, List.eraseIdx_cons_zero, List.eraseIdx_cons_succ, exists_eq', exists_eq, shf_d, bck_d, toC_nil, toC_d, toC_o, ds_nil, ds_cons, dats_nil, dats_d, dat_d, dat_o0, dat_o1, dat_o2, startE, kg, cutE, cut1_d, cut1_n, cut1_o0, cut1_o1, zipA,
  dAdd_i, dI0_i, dMod_i, dFdiv_i, dPow_i, dLt_i, dLe_i, dGt_i, dGe_i, dLt_s, dLe_s, dGt_s, dGe_s, dEq_i, dEq_s, dEq_b, dEq_is, dEq_si, dEq_ni, dEq_in, dEq_sn, dEq_ns, dNe_i, dNe_s, dNe_b, dNe_is, dNe_si, dNe_ni, dNe_in, dIs_b, dIs_n, dIsNot_b, dIsNot_n, dIx_l, dIx_t, dSl_l, dSl_t, dEq_ti, dEq_li, D.isN, atI_0, atI_1, atI_2, atI_3, atI_4, atI_5, atI_map, map_int_inj, map_str_inj,
  fLen_t, fLen_l, fLen_s, fInt_i, fInt_b, fTup_l, fTup_t, fList_l, fList_t, fMax2_i, fMin2_i, fAbs_i, isi_int_int, isi_int_bool, isi_int_str, isi_int_tup, isi_int_lst, isi_bl_int, isi_bl_bool, isi_bl_str, isi_bl_tup, isi_str_int, isi_str_bool, isi_str_str, isi_str_tup, isi_tup_int, isi_tup_bool, isi_tup_str, isi_tup_tup, isi_lst_int, isi_lst_bool, isi_lst_str, isi_lst_tup, isi_lst_lst, isi_non_int, isi_non_bool, isi_non_str, isi_non_tup, items_t, items_l,
  List.getElem?_cons_zero, List.getElem?_cons_succ, List.set_cons_zero, List.set_cons_succ, List.map_cons, List.map_nil, List.length_cons, List.length_nil, List.cons_append, List.nil_append, List.append_nil, List.replicate_succ, List.replicate_zero, Nat.reduceAdd, Nat.reduceSub, List.head?_cons, List.tail_cons, List.take_succ_cons, List.take_zero, List.take_nil,
  Option.some.injEq, Option.map_some, Option.map_none, exists_eq_left', exists_eq_left, Rv.d.injEq, Rv.o.injEq, D.int.injEq, D.bl.injEq, D.str.injEq, D.tup.injEq, D.lst.injEq, MO.lst.injEq, List.cons.injEq, and_true, true_and, and_assoc, exists_and_left, decide_eq_true_eq, if_true, Bool.true_eq_false, Bool.false_eq_true, if_false, reduceIte, Bool.not_true, Bool.not_false, eq_self, exists_const, List.filterMap_cons_some, List.filterMap_nil, List.filterMap_cons, and_self, CMul_iff, or_true, true_or, Int.reduceLT, Int.reduceLE, Int.reduceToNat, Int.reduceNeg, Int.reduceSub, Int.reduceAdd, Int.reducePow, Nat.reducePow, Int.reduceMul, ixN_def, Int.cast_ofNat_Int, Int.reduceEq, decide_true, decide_false, dMul_i, dPow_i, strD, reduceCtorEq, ite_true, ite_false, Nat.reduceLT, Nat.reduceLeDiff, Int.reduceAbs, false_and, and_false, or_false, false_or, exists_false, oi]; exact h
  | cons n ns =>
    simp only [sSeq, sNil, sIf, sSet, sAsg, sPar, sPar3, sRet, sRetN, sExpr, sBreak, sCont, sSetIx, wVar, wC, wOp, wChain, wTb, wAnd, wOr, wNotT, wAndV, wOrV, wNotV, wIf, wNil, wCons, wTup, wLst, wLstO, wSl, wNoPart, wPart, wCB, wNeg, wOrT, wTruth, wJoin, wLc, sFor, wipeE, wKw, wYes, wCall, wCallO, wApp, iL, iT, iR1, iR2, iZ, iS, gN, gsNil, gsCons, gTn, endsOf, retR_d, retR_o, sFrz, frz_d, frz_o0, frz_o1, frz_o10, tru_l, tru_t, tru_b, tru_i, tru_n, List.eraseIdx_cons_zero, List.eraseIdx_cons_succ, exists_eq', exists_eq, shf_d, bck_d, toC_nil, toC_d, toC_o, ds_nil, ds_cons, dats_nil, dats_d, dat_d, dat_o0, dat_o1, dat_o2, startE, kg, cutE, cut1_d, cut1_n, cut1_o0, cut1_o1, zipA,
  dAdd_i, dI0_i, dMod_i, dFdiv_i, dPow_i, dLt_i, dLe_i, dGt_i, dGe_i, dLt_s, dLe_s, dGt_s, dGe_s, dEq_i, dEq_s, dEq_b, dEq_is, dEq_si, dEq_ni, dEq_in, dEq_sn, dEq_ns, dNe_i, dNe_s, dNe_b, dNe_is, dNe_si, dNe_ni, dNe_in, dIs_b, dIs_n, dIsNot_b, dIsNot_n, dIx_l, dIx_t, dSl_l, dSl_t, dEq_ti, dEq_li, D.isN, atI_0, atI_1, atI_2, atI_3, atI_4, atI_5, atI_map, map_int_inj, map_str_inj,
  fLen_t, fLen_l, fLen_s, fInt_i, fInt_b, fTup_l, fTup_t, fList_l, fList_t, fMax2_i, fMin2_i, fAbs_i, isi_int_int, isi_int_bool, isi_int_str, isi_int_tup, isi_int_lst, isi_bl_int, isi_bl_bool, isi_bl_str, isi_bl_tup, isi_str_int, isi_str_bool, isi_str_str, isi_str_tup, isi_tup_int, isi_tup_bool, isi_tup_str, isi_tup_tup, isi_lst_int, isi_lst_bool, isi_lst_str, isi_lst_tup, isi_lst_lst, isi_non_int, isi_non_bool, isi_non_str, isi_non_tup, items_t, items_l,
  List.getElem?_cons_zero, List.getElem?_cons_succ, List.set_cons_zero, List.set_cons_succ, List.map_cons, List.map_nil, List.length_cons, List.length_nil, List.cons_append, List.nil_append, List.append_nil, List.replicate_succ, List.replicate_zero, Nat.reduceAdd, Nat.reduceSub, List.head?_cons, List.tail_cons, List.take_succ_cons, List.take_zero, List.take_nil,
  Option.some.injEq, Option.map_some, Option.map_none, exists_eq_left', exists_eq_left, Rv.d.injEq, Rv.o.injEq, D.int.injEq, D.bl.injEq, D.str.injEq, D.tup.injEq, D.lst.injEq, MO.lst.injEq, List.cons.injEq, and_true, true_and, and_assoc, exists_and_left, decide_eq_true_eq, if_true, Bool.true_eq_false, Bool.false_eq_true, if_false, reduceIte, Bool.not_true, Bool.not_false, eq_self, exists_const, List.filterMap_cons_some, List.filterMap_nil, List.filterMap_cons, and_self, CMul_iff, or_true, true_or, Int.reduceLT, Int.reduceLE, Int.reduceToNat, Int.reduceNeg, Int.reduceSub, Int.reduceAdd, Int.reducePow, Nat.reducePow, Int.reduceMul, ixN_def, Int.cast_ofNat_Int, Int.reduceEq, decide_true, decide_false, dMul_i, dPow_i, strD, reduceCtorEq, ite_true, ite_false, Nat.reduceLT, Nat.reduceLeDiff, Int.reduceAbs, false_and, and_false, or_false, false_or, exists_false, oi]
    rw [if_pos (by omega)]; exact h
end Lk00
set_option Elab.async false
set_option linter.all false
set_option maxRecDepth 100000
set_option maxHeartbeats 4000000
namespace Lk00
open PySem PySem.Spec PyProof.Rows L2 Dw
def c_put_in : Ct := fun rs M R => ∃ (ns : List Int) (x : Int), rs = [.d (.tup (ns.map .int)), .d (.int x)] ∧ M = [] ∧ ns.length ≤ 1000 ∧ R (.d (.tup ((putIn ns x).map .int))) []
theorem ln_put_in : ∀ rs M R, c_put_in rs M R → rs.length = 2 ∧ M.length = 0 := by
  rintro rs M R ⟨x, y, rfl, rfl, _⟩; exact ⟨rfl, rfl⟩
set_option maxHeartbeats 8000000 in
theorem ok_put_in {P : Program} {w : World} {K : PySem.W.Frag} {mg : Str → Option Value} {base : Heap} (T : Tx K mg) : FnOk P w K mg base CX0 1 T.a_put_in T.fd_put_in ["things", "one"] (spD K c_put_in) := by
  refine fnD (n0 := 0) T.F_put_in sc_put_in ln_put_in fun cdv A outer s H E hr => ⟨_, (qss_cons (qs_set (i := 2) sc_put_in.nd rfl (.inl rfl) qe_int) (qss_cons (qs_while PassesOwn.never (QW.t (qw_and (qt_lt (qv 2) (qe_len (by rfl) T.n_len (qa_cons (qv 0) qa_nil))) (qw_and1 (qt_le (qe_ix (qv 0) (qv 2)) (qv 1))))) (qss_one (qs_set (i := 2) sc_put_in.nd rfl (.inl rfl) (qe_add (qv 2) qe_int)))) (qss_one (qs_ret (qe_add (qe_add (qe_sl (qv 0) qo_none (qo_some (qv 2))) (qe_tup (qa_cons (qv 1) qa_nil))) (qe_sl (qv 0) (qo_some (qv 2)) qo_none)))))), fun rs M R h => ?_⟩
  obtain ⟨ns, x, rfl, rfl, hl, h⟩ := h
  simp only [sSeq, sNil, sIf, sSet, sAsg, sPar, sPar3, sRet, sRetN, sExpr, sBreak, sCont, sSetIx, wVar, wC, wOp, wChain, wTb, wAnd, wOr, wNotT, wAndV, wOrV, wNotV, wIf, wNil, wCons, wTup, wLst, wLstO, wSl, wNoPart, wPart, wCB, wNeg, wOrT, wTruth, wJoin, wLc, sFor, wipeE, wKw, wYes, wCall, wCallO, wApp, iL, iT, iR1, iR2, iZ, iS, gN, gsNil, gsCons, gTn, endsOf, retR_d, retR_o, sFrz, frz_d, frz_o0, frz_o1, frz_o10, tru_l, tru_t, tru_b, tru_i, tru_n, List.eraseIdx_cons_zero, List.eraseIdx_cons_succ, exists_eq', exists_eq, shf_d, bck_d, toC_nil, toC_d, toC_o, ds_nil, ds_cons, dats_nil, dats_d, dat_d, dat_o0, dat_o1, dat_o2, startE, kg, cutE, cut1_d, cut1_n, cut1_o0, cut1_o1, zipA,
  dAdd_i, dI0_i, dMod_i, dFdiv_i, dPow_i, dLt_i, dLe_i, dGt_i, dGe_i, dLt_s, dLe_s, dGt_s, dGe_s, dEq_i, dEq_s, dEq_b, dEq_is, dEq_si, dEq_ni, dEq_in, dEq_sn, dEq_ns, dNe_i, dNe_s, dNe_b, dNe_is, dNe_si, dNe_ni, dNe_in, dIs_b, dIs_n, dIsNot_b, dIsNot_n, dIx_l, dIx_t, dSl_l, dSl_t, dEq_ti, dEq_li, D.isN, atI_0, atI_1, atI_2, atI_3, atI_4, atI_5, atI_map, map_int_inj, map_str_inj,
  fLen_t, fLen_l, fLen_s, fInt_i, fInt_b, fTup_l, fTup_t, fList_l, fList_t, fMax2_i, fMin2_i, fAbs_i, isi_int_int, isi_int_bool, isi_int_str, isi_int_tup, isi_int_lst, isi_bl_int, isi_bl_bool, isi_bl_str, isi_bl_tup, isi_str_int, isi_str_bool, isi_str_str, isi_str_tup, isi_tup_int, isi_tup_bool, isi_tup_str, isi_tup_tup, isi_lst_int, isi_lst_bool, isi_lst_str, isi_lst_tup, isi_lst_lst, isi_non_int, isi_non_bool, isi_non_str, isi_non_tup, items_t, items_l,
  List.getElem?_cons_zero, List.getElem?_cons_succ, List.set_cons_zero, List.set_cons_succ, List.map_cons, List.map_nil, List.length_cons, List.length_nil, List.cons_append, List.nil_append, List.append_nil, List.replicate_succ, List.replicate_zero, Nat.reduceAdd, Nat.reduceSub, List.head?_cons, List.tail_cons, List.take_succ_cons, List.take_zero, List.take_nil,
  Option.some.injEq, Option.map_some, Option.map_none, exists_eq_left', exists_eq_left, Rv.d.injEq, Rv.o.injEq, D.int.injEq, D.bl.injEq, D.str.injEq, D.tup.injEq, D.lst.injEq, MO.lst.injEq, List.cons.injEq, and_true, true_and, and_assoc, exists_and_left, decide_eq_true_eq, if_true, Bool.true_eq_false, Bool.false_eq_true, if_false, reduceIte, Bool.not_true, Bool.not_false, eq_self, exists_const, List.filterMap_cons_some, List.filterMap_nil, List.filterMap_cons, and_self, CMul_iff, or_true, true_or, Int.reduceLT, Int.reduceLE, Int.reduceToNat, Int.reduceNeg, Int.reduceSub, Int.reduceAdd, Int.reducePow, Nat.reducePow, Int.reduceMul, ixN_def, Int.cast_ofNat_Int, Int.reduceEq, decide_true, decide_false, dMul_i, dPow_i, strD, reduceCtorEq, ite_true, ite_false, Nat.reduceLT, Nat.reduceLeDiff, Int.reduceAbs, false_and, and_false, or_false, false_or, exists_false]
  refine whl (fun m env M => ∃ k : Nat, k + m = ns.length ∧ env = [some (.d (.tup (ns.map .int))), some (.d (.int x)), some (.d (.int k))] ∧ M = [] ∧ ∀ y ∈ ns.take k, y ≤ x) ns.length ⟨0, by omega, rfl, rfl, by simp⟩ ?_
  rintro m env M' ⟨k, hk, rfl, rfl, hall⟩
  refine ⟨fun e m' => k < ns.length ∧ e = [some (.d (.tup (ns.map .int))), some (.d (.int x)), some (.d (.int (k + 1)))] ∧ m' = [] ∧ ∀ y ∈ ns.take (k + 1), y ≤ x, fun e m' hN => ⟨m - 1, by omega, k + 1, by omega, hN.2.1, hN.2.2.1, hN.2.2.2⟩, ?_⟩
  have fin : (∀ y, ns[k]? = some y → x < y) → ∃ z, dAdd (.tup (cutD (ns.map .int) none (some (k : Int)))) (.tup [.int x]) = some z ∧ ∃ z_1, dAdd z (.tup (cutD (ns.map .int) (some (k : Int)) none)) = some z_1 ∧ R (.d z_1) [] := by
    intro hy
    rw [cut_map, cut_map, cut_take, cut_drop]
    refine ⟨_, by rw [dAdd_t, if_pos (sz (by simp; omega))], _, by rw [dAdd_t, if_pos (sz (by simp; omega))], ?_⟩
    rw [putIn_cut ns x k hall hy] at h
    simpa using h
  by_cases hlt : k < ns.length
  · simp only [sSeq, sNil, sIf, sSet, sAsg, sPar, sPar3, sRet, sRetN, sExpr, sBreak, sCont, sSetIx, wVar, wC, wOp, wChain, wTb, wAnd, wOr, wNotT, wAndV, wOrV, wNotV, wIf, wNil, wCons, wTup, wLst, wLstO, wSl, wNoPart, wPart, wCB, wNeg, wOrT, wTruth, wJoin, wLc, sFor, wipeE, wKw, wYes, wCall, wCallO, wApp, iL, iT, iR1, iR2, iZ, iS, gN, gsNil, gsCons, gTn, endsOf, retR_d, retR_o, sFrz, frz_d, frz_o0, frz_o1, frz_o10, tru_l, tru_t, tru_b, tru_i, tru_n, List.eraseIdx_cons_zero, List.eraseIdx_cons_succ, exists_eq', exists_eq, shf_d, bck_d, toC_nil, toC_d, toC_o, ds_nil, ds_cons, dats_nil, dats_d, dat_d, dat_o0, dat_o1, dat_o2, startE, kg, cutE, cut1_d, cut1_n, cut1_o0, cut1_o1, zipA,
  dAdd_i, dI0_i, dMod_i, dFdiv_i, dPow_i, dLt_i, dLe_i, dGt_i, dGe_i, dLt_s, dLe_s, dGt_s, dGe_s, dEq_i, dEq_s, dEq_b, dEq_is, dEq_si, dEq_ni, dEq_in, dEq_sn, dEq_ns, dNe_i, dNe_s, dNe_b, dNe_is, dNe_si, dNe_ni, dNe_in, dIs_b, dIs_n, dIsNot_b, dIsNot_n, dIx_l, dIx_t, dSl_l, dSl_t, dEq_ti, dEq_li, D.isN, atI_0, atI_1, atI_2, atI_3, atI_4, atI_5, atI_map, map_int_inj, map_str_inj,
  fLen_t, fLen_l, fLen_s, fInt_i, fInt_b, fTup_l, fTup_t, fList_l, fList_t, fMax2_i, fMin2_i, fAbs_i, isi_int_int, isi_int_bool, isi_int_str, isi_int_tup, isi_int_lst, isi_bl_int, isi_bl_bool, isi_bl_str, isi_bl_tup, isi_str_int, isi_str_bool, isi_str_str, isi_str_tup, isi_tup_int, isi_tup_bool, isi_tup_str, isi_tup_tup, isi_lst_int, isi_lst_bool, isi_lst_str, isi_lst_tup, isi_lst_lst, isi_non_int, isi_non_bool, isi_non_str, isi_non_tup, items_t, items_l,
  List.getElem?_cons_zero, List.getElem?_cons_succ, List.set_cons_zero, List.set_cons_succ, List.map_cons, List.map_nil, List.length_cons, List.length_nil, List.cons_append, List.nil_append, List.append_nil, List.replicate_succ, List.replicate_zero, Nat.reduceAdd, Nat.reduceSub, List.head?_cons, List.tail_cons, List.take_succ_cons, List.take_zero, List.take_nil,
  Option.some.injEq, Option.map_some, Option.map_none, exists_eq_left', exists_eq_left, Rv.d.injEq, Rv.o.injEq, D.int.injEq, D.bl.injEq, D.str.injEq, D.tup.injEq, D.lst.injEq, MO.lst.injEq, List.cons.injEq, and_true, true_and, and_assoc, exists_and_left, decide_eq_true_eq, if_true, Bool.true_eq_false, Bool.false_eq_true, if_false, reduceIte, Bool.not_true, Bool.not_false, eq_self, exists_const, List.filterMap_cons_some, List.filterMap_nil, List.filterMap_cons, and_self, CMul_iff, or_true, true_or, Int.reduceLT, Int.reduceLE, Int.reduceToNat, Int.reduceNeg, Int.reduceSub, Int.reduceAdd, Int.reducePow, Nat.reducePow, Int.reduceMul, ixN_def, Int.cast_ofNat_Int, Int.reduceEq, decide_true, decide_false, dMul_i, dPow_i, strD, reduceCtorEq, ite_true, ite_false, Nat.reduceLT, Nat.reduceLeDiff, Int.reduceAbs, false_and, and_false, or_false, false_or, exists_false, List.length_map, atI_nat (List.getElem?_eq_getElem hlt)]
    rw [if_pos (by omega)]
    by_cases hle : ns[k] ≤ x
    · rw [if_pos hle]
      refine ⟨hlt, fun y hy => ?_⟩
      rw [List.take_add_one, List.getElem?_eq_getElem hlt] at hy
      rcases List.mem_append.mp hy with hy | hy
      · exact hall y hy
      · have : y = ns[k] := by simpa using hy
        rw [this]; exact hle
    · rw [if_neg hle]
      refine ⟨sz (by decide), fin fun y hy => ?_⟩
      rw [List.getElem?_eq_getElem hlt] at hy
      cases hy; omega
  · simp only [sSeq, sNil, sIf, sSet, sAsg, sPar, sPar3, sRet, sRetN, sExpr, sBreak, sCont, sSetIx, wVar, wC, wOp, wChain, wTb, wAnd, wOr, wNotT, wAndV, wOrV, wNotV, wIf, wNil, wCons, wTup, wLst, wLstO, wSl, wNoPart, wPart, wCB, wNeg, wOrT, wTruth, wJoin, wLc, sFor, wipeE, wKw, wYes, wCall, wCallO, wApp, iL, iT, iR1, iR2, iZ, iS, gN, gsNil, gsCons, gTn, endsOf, retR_d, retR_o, sFrz, frz_d, frz_o0, frz_o1, frz_o10, tru_l, tru_t, tru_b, tru_i, tru_n, List.eraseIdx_cons_zero, List.eraseIdx_cons_succ, exists_eq', exists_eq, shf_d, bck_d, toC_nil, toC_d, toC_o, ds_nil, ds_cons, dats_nil, dats_d, dat_d, dat_o0, dat_o1, dat_o2, startE, kg, cutE, cut1_d, cut1_n, cut1_o0, cut1_o1, zipA,
  dAdd_i, dI0_i, dMod_i, dFdiv_i, dPow_i, dLt_i, dLe_i, dGt_i, dGe_i, dLt_s, dLe_s, dGt_s, dGe_s, dEq_i, dEq_s, dEq_b, dEq_is, dEq_si, dEq_ni, dEq_in, dEq_sn, dEq_ns, dNe_i, dNe_s, dNe_b, dNe_is, dNe_si, dNe_ni, dNe_in, dIs_b, dIs_n, dIsNot_b, dIsNot_n, dIx_l, dIx_t, dSl_l, dSl_t, dEq_ti, dEq_li, D.isN, atI_0, atI_1, atI_2, atI_3, atI_4, atI_5, atI_map, map_int_inj, map_str_inj,
  fLen_t, fLen_l, fLen_s, fInt_i, fInt_b, fTup_l, fTup_t, fList_l, fList_t, fMax2_i, fMin2_i, fAbs_i, isi_int_int, isi_int_bool, isi_int_str, isi_int_tup, isi_int_lst, isi_bl_int, isi_bl_bool, isi_bl_str, isi_bl_tup, isi_str_int, isi_str_bool, isi_str_str, isi_str_tup, isi_tup_int, isi_tup_bool, isi_tup_str, isi_tup_tup, isi_lst_int, isi_lst_bool, isi_lst_str, isi_lst_tup, isi_lst_lst, isi_non_int, isi_non_bool, isi_non_str, isi_non_tup, items_t, items_l,
  List.getElem?_cons_zero, List.getElem?_cons_succ, List.set_cons_zero, List.set_cons_succ, List.map_cons, List.map_nil, List.length_cons, List.length_nil, List.cons_append, List.nil_append, List.append_nil, List.replicate_succ, List.replicate_zero, Nat.reduceAdd, Nat.reduceSub, List.head?_cons, List.tail_cons, List.take_succ_cons, List.take_zero, List.take_nil,
  Option.some.injEq, Option.map_some, Option.map_none, exists_eq_left', exists_eq_left, Rv.d.injEq, Rv.o.injEq, D.int.injEq, D.bl.injEq, D.str.injEq, D.tup.injEq, D.lst.injEq, MO.lst.injEq, List.cons.injEq, and_true, true_and, and_assoc, exists_and_left, decide_eq_true_eq, if_true, Bool.true_eq_false, Bool.false_eq_true, if_false, reduceIte, Bool.not_true, Bool.not_false, eq_self, exists_const, List.filterMap_cons_some, List.filterMap_nil, List.filterMap_cons, and_self, CMul_iff, or_true, true_or, Int.reduceLT, Int.reduceLE, Int.reduceToNat, Int.reduceNeg, Int.reduceSub, Int.reduceAdd, Int.reducePow, Nat.reducePow, Int.reduceMul, ixN_def, Int.cast_ofNat_Int, Int.reduceEq, decide_true, decide_false, dMul_i, dPow_i, strD, reduceCtorEq, ite_true, ite_false, Nat.reduceLT, Nat.reduceLeDiff, Int.reduceAbs, false_and, and_false, or_false, false_or, exists_false, List.length_map]
    rw [if_neg (by omega)]
    refine ⟨sz (by decide), fin fun y hy => ?_⟩
    rw [List.getElem?_eq_none (by omega)] at hy
    cases hy
end Lk00
set_option Elab.async false
set_option linter.all false
set_option maxRecDepth 100000
set_option maxHeartbeats 4000000
namespace Lk00
open PySem PySem.Spec PyProof.Rows L2 Dw
def c_poured : Ct := fun rs M R => ∃ (ns ms : List Int), rs = [.d (.tup (ns.map .int)), .d (.tup (ms.map .int))] ∧ M = [] ∧ ns.length + ms.length ≤ 1000 ∧ R (.d (.tup ((sortI (ns ++ ms)).map .int))) []
theorem ln_poured : ∀ rs M R, c_poured rs M R → rs.length = 2 ∧ M.length = 0 := by
  rintro rs M R ⟨x, y, rfl, rfl, _⟩; exact ⟨rfl, rfl⟩
set_option maxHeartbeats 8000000 in
theorem ok_poured {P : Program} {w : World} {K : PySem.W.Frag} {mg : Str → Option Value} {base : Heap} (T : Tx K mg) : FnOk P w K mg base CX0 1 T.a_poured T.fd_poured ["one", "other"] (spD K c_poured) := by
  refine fnD (n0 := 0) T.F_poured sc_poured ln_poured fun cdv A outer s H E hr => ⟨_, (qss_one (qs_ret (qe_tuple (by rfl) T.n_tuple (qa_cons (qe_sorted (u70 hr) (by rfl) T.n_sorted (qa_cons (qe_add (qv 0) (qv 1)) qa_nil)) qa_nil)))), fun rs M R h => ?_⟩
  obtain ⟨ns, ms, rfl, rfl, hl, h⟩ := h
  simp only [sSeq, sNil, sIf, sSet, sAsg, sPar, sPar3, sRet, sRetN, sExpr, sBreak, sCont, sSetIx, wVar, wC, wOp, wChain, wTb, wAnd, wOr, wNotT, wAndV, wOrV, wNotV, wIf, wNil, wCons, wTup, wLst, wLstO, wSl, wNoPart, wPart, wCB, wNeg, wOrT, wTruth, wJoin, wLc, sFor, wipeE, wKw, wYes, wCall, wCallO, wApp, iL, iT, iR1, iR2, iZ, iS, gN, gsNil, gsCons, gTn, endsOf, retR_d, retR_o, sFrz, frz_d, frz_o0, frz_o1, frz_o10, tru_l, tru_t, tru_b, tru_i, tru_n, List.eraseIdx_cons_zero, List.eraseIdx_cons_succ, exists_eq', exists_eq, shf_d, bck_d, toC_nil, toC_d, toC_o, ds_nil, ds_cons, dats_nil, dats_d, dat_d, dat_o0, dat_o1, dat_o2, startE, kg, cutE, cut1_d, cut1_n, cut1_o0, cut1_o1, zipA,
  dAdd_i, dI0_i, dMod_i, dFdiv_i, dPow_i, dLt_i, dLe_i, dGt_i, dGe_i, dLt_s, dLe_s, dGt_s, dGe_s, dEq_i, dEq_s, dEq_b, dEq_is, dEq_si, dEq_ni, dEq_in, dEq_sn, dEq_ns, dNe_i, dNe_s, dNe_b, dNe_is, dNe_si, dNe_ni, dNe_in, dIs_b, dIs_n, dIsNot_b, dIsNot_n, dIx_l, dIx_t, dSl_l, dSl_t, dEq_ti, dEq_li, D.isN, atI_0, atI_1, atI_2, atI_3, atI_4, atI_5, atI_map, map_int_inj, map_str_inj,
  fLen_t, fLen_l, fLen_s, fInt_i, fInt_b, fTup_l, fTup_t, fList_l, fList_t, fMax2_i, fMin2_i, fAbs_i, isi_int_int, isi_int_bool, isi_int_str, isi_int_tup, isi_int_lst, isi_bl_int, isi_bl_bool, isi_bl_str, isi_bl_tup, isi_str_int, isi_str_bool, isi_str_str, isi_str_tup, isi_tup_int, isi_tup_bool, isi_tup_str, isi_tup_tup, isi_lst_int, isi_lst_bool, isi_lst_str, isi_lst_tup, isi_lst_lst, isi_non_int, isi_non_bool, isi_non_str, isi_non_tup, items_t, items_l,
  List.getElem?_cons_zero, List.getElem?_cons_succ, List.set_cons_zero, List.set_cons_succ, List.map_cons, List.map_nil, List.length_cons, List.length_nil, List.cons_append, List.nil_append, List.append_nil, List.replicate_succ, List.replicate_zero, Nat.reduceAdd, Nat.reduceSub, List.head?_cons, List.tail_cons, List.take_succ_cons, List.take_zero, List.take_nil,
  Option.some.injEq, Option.map_some, Option.map_none, exists_eq_left', exists_eq_left, Rv.d.injEq, Rv.o.injEq, D.int.injEq, D.bl.injEq, D.str.injEq, D.tup.injEq, D.lst.injEq, MO.lst.injEq, List.cons.injEq, and_true, true_and, and_assoc, exists_and_left, decide_eq_true_eq, if_true, Bool.true_eq_false, Bool.false_eq_true, if_false, reduceIte, Bool.not_true, Bool.not_false, eq_self, exists_const, List.filterMap_cons_some, List.filterMap_nil, List.filterMap_cons, and_self, CMul_iff, or_true, true_or, Int.reduceLT, Int.reduceLE, Int.reduceToNat, Int.reduceNeg, Int.reduceSub, Int.reduceAdd, Int.reducePow, Nat.reducePow, Int.reduceMul, ixN_def, Int.cast_ofNat_Int, Int.reduceEq, decide_true, decide_false, dMul_i, dPow_i, strD, reduceCtorEq, ite_true, ite_false, Nat.reduceLT, Nat.reduceLeDiff, Int.reduceAbs, false_and, and_false, or_false, false_or, exists_false, dAdd_t, List.length_map, if_pos (sz (n := ns.length + ms.length) (by omega))]
  rw [← List.map_append]
  exact ⟨_, fSorted_ints rfl, _, fTup_l.mpr rfl, h⟩
end Lk00
set_option Elab.async false
set_option linter.all false
set_option maxRecDepth 100000
set_option maxHeartbeats 4000000
namespace Lk00
open PySem PySem.Spec PyProof.Rows L2 Dw
def c__law_tray : Ct := fun rs M R => ∃ ns : List Int, rs = [.d (.lst (ns.map .int))] ∧ M = [] ∧ ns.length ≤ 63 ∧ ∀ tr, TrayOk 0 tr → R (.o 0) [tr]
theorem ln__law_tray : ∀ rs M R, c__law_tray rs M R → rs.length = 1 ∧ M.length = 0 := by
  rintro rs M R ⟨x, rfl, rfl, _⟩; exact ⟨rfl, rfl⟩
set_option maxHeartbeats 8000000 in
theorem ok__law_tray {P : Program} {w : World} {K : PySem.W.Frag} {mg : Str → Option Value} {base : Heap} (T : Tx K mg) : FnOk P w K mg base CX0 1 T.a__law_tray T.fd__law_tray ["script"] (spD K c__law_tray) := by
  refine fnD (n0 := 0) T.F__law_tray sc__law_tray ln__law_tray fun cdv A outer s H E hr => ⟨_, (qss_cons (qs_par (i := 1) (j := 2) rfl sc__law_tray.nd rfl rfl (by decide) rfl rfl (qa_cons (qe_lstO qa_nil) (qa_cons qe_int qa_nil)) (by rfl)) (qss_cons (qs_for PassesOwn.never rfl (qi_list (qe_sl (qv 0) qo_none (qo_some qe_int))) (qg_name (i := 3) sc__law_tray.nd rfl (by first | exact .inl rfl | exact .inr rfl)) (qss_cons (qs_set (i := 4) sc__law_tray.nd rfl (.inl rfl) (qe_mod (qe_intc (by rfl) T.n_int (qa_cons (qv 3) qa_nil)) (qe_pow qe_int qe_int))) (qss_cons (qs_set (i := 2) sc__law_tray.nd rfl (.inl rfl) (qe_mod (qe_add (qe_add (qe_mul (qv 2) qe_int) (qe_mod (qv 4) qe_int)) qe_int) qe_int)) (qss_one (qs_for PassesOwn.never rfl (qi_range1 (by rfl) T.n_range (qa_cons qe_int qa_nil)) (qg_name (i := 5) sc__law_tray.nd rfl (by first | exact .inl rfl | exact .inr rfl)) (qss_cons (qs_expr (qe_append (qv 1) (qe_mod (qv 4) qe_int))) (qss_cons (qs_set (i := 4) sc__law_tray.nd rfl (.inl rfl) (qe_fdiv (qv 4) qe_int)) (qss_one (qs_if (qt_eq (u64 hr) (qv 4) qe_int) (qss_one qs_break) qss_nil))))))))) (qs_frz 0 (by decide) (qss_one (qs_ret (qe_lstO (qa_cons (qe_orT (qv 1) (qe_one (qe_lst (qa_cons qe_int qa_nil)))) (qa_cons (qv 2) (qa_cons qe_int qa_nil))))))))), fun rs M R h => ?_⟩
  obtain ⟨ns, rfl, rfl, hl, h⟩ := h
  have e60 : cutD (ns.map D.int) none (some 60) = (ns.take 60).map D.int := by
    rw [cut_map, show (60 : Int) = ((60 : Nat) : Int) from rfl, cut_take]
  simp only [sSeq, sNil, sIf, sSet, sAsg, sPar, sPar3, sRet, sRetN, sExpr, sBreak, sCont, sSetIx, wVar, wC, wOp, wChain, wTb, wAnd, wOr, wNotT, wAndV, wOrV, wNotV, wIf, wNil, wCons, wTup, wLst, wLstO, wSl, wNoPart, wPart, wCB, wNeg, wOrT, wTruth, wJoin, wLc, sFor, wipeE, wKw, wYes, wCall, wCallO, wApp, iL, iT, iR1, iR2, iZ, iS, gN, gsNil, gsCons, gTn, endsOf, retR_d, retR_o, sFrz, frz_d, frz_o0, frz_o1, frz_o10, tru_l, tru_t, tru_b, tru_i, tru_n, List.eraseIdx_cons_zero, List.eraseIdx_cons_succ, exists_eq', exists_eq, shf_d, bck_d, toC_nil, toC_d, toC_o, ds_nil, ds_cons, dats_nil, dats_d, dat_d, dat_o0, dat_o1, dat_o2, startE, kg, cutE, cut1_d, cut1_n, cut1_o0, cut1_o1, zipA,
  dAdd_i, dI0_i, dMod_i, dFdiv_i, dPow_i, dLt_i, dLe_i, dGt_i, dGe_i, dLt_s, dLe_s, dGt_s, dGe_s, dEq_i, dEq_s, dEq_b, dEq_is, dEq_si, dEq_ni, dEq_in, dEq_sn, dEq_ns, dNe_i, dNe_s, dNe_b, dNe_is, dNe_si, dNe_ni, dNe_in, dIs_b, dIs_n, dIsNot_b, dIsNot_n, dIx_l, dIx_t, dSl_l, dSl_t, dEq_ti, dEq_li, D.isN, atI_0, atI_1, atI_2, atI_3, atI_4, atI_5, atI_map, map_int_inj, map_str_inj,
  fLen_t, fLen_l, fLen_s, fInt_i, fInt_b, fTup_l, fTup_t, fList_l, fList_t, fMax2_i, fMin2_i, fAbs_i, isi_int_int, isi_int_bool, isi_int_str, isi_int_tup, isi_int_lst, isi_bl_int, isi_bl_bool, isi_bl_str, isi_bl_tup, isi_str_int, isi_str_bool, isi_str_str, isi_str_tup, isi_tup_int, isi_tup_bool, isi_tup_str, isi_tup_tup, isi_lst_int, isi_lst_bool, isi_lst_str, isi_lst_tup, isi_lst_lst, isi_non_int, isi_non_bool, isi_non_str, isi_non_tup, items_t, items_l,
  List.getElem?_cons_zero, List.getElem?_cons_succ, List.set_cons_zero, List.set_cons_succ, List.map_cons, List.map_nil, List.length_cons, List.length_nil, List.cons_append, List.nil_append, List.append_nil, List.replicate_succ, List.replicate_zero, Nat.reduceAdd, Nat.reduceSub, List.head?_cons, List.tail_cons, List.take_succ_cons, List.take_zero, List.take_nil,
  Option.some.injEq, Option.map_some, Option.map_none, exists_eq_left', exists_eq_left, Rv.d.injEq, Rv.o.injEq, D.int.injEq, D.bl.injEq, D.str.injEq, D.tup.injEq, D.lst.injEq, MO.lst.injEq, List.cons.injEq, and_true, true_and, and_assoc, exists_and_left, decide_eq_true_eq, if_true, Bool.true_eq_false, Bool.false_eq_true, if_false, reduceIte, Bool.not_true, Bool.not_false, eq_self, exists_const, List.filterMap_cons_some, List.filterMap_nil, List.filterMap_cons, and_self, CMul_iff, or_true, true_or, Int.reduceLT, Int.reduceLE, Int.reduceToNat, Int.reduceNeg, Int.reduceSub, Int.reduceAdd, Int.reducePow, Nat.reducePow, Int.reduceMul, ixN_def, Int.cast_ofNat_Int, Int.reduceEq, decide_true, decide_false, dMul_i, dPow_i, strD, reduceCtorEq, ite_true, ite_false, Nat.reduceLT, Nat.reduceLeDiff, Int.reduceAbs, false_and, and_false, or_false, false_or, exists_false, e60]
  refine ⟨sz (by decide), for_0 (fun i env M => ∃ (cr : List Int) (st : Int) (e3 e4 e5 : Option Rv), env = [some (.d (.lst (ns.map .int))), some (.o 0), some (.d (.int st)), e3, e4, e5] ∧ M = [.lst (cr.map .int)] ∧ cr.length ≤ 18 * i ∧ (∀ c ∈ cr, 0 ≤ c ∧ c < 1000) ∧ 0 ≤ st ∧ st < 11000000)
    ⟨[], 16001, none, none, none, rfl, rfl, by simp, by simp, by decide, by decide⟩ (fun i d env M hd hI => ?_) (fun env M hI => ?_)⟩
  · obtain ⟨cr, st, e3, e4, e5, rfl, rfl, g1, g2, g3, g4⟩ := hI
    have hi : i < 60 := by
      have := (List.getElem?_eq_some_iff.mp hd).1
      simp at this; omega
    rw [List.getElem?_map] at hd
    cases hx : (ns.take 60)[i]? with
    | none => rw [hx] at hd; cases hd
    | some x =>
      rw [hx] at hd
      cases hd
      simp only [sSeq, sNil, sIf, sSet, sAsg, sPar, sPar3, sRet, sRetN, sExpr, sBreak, sCont, sSetIx, wVar, wC, wOp, wChain, wTb, wAnd, wOr, wNotT, wAndV, wOrV, wNotV, wIf, wNil, wCons, wTup, wLst, wLstO, wSl, wNoPart, wPart, wCB, wNeg, wOrT, wTruth, wJoin, wLc, sFor, wipeE, wKw, wYes, wCall, wCallO, wApp, iL, iT, iR1, iR2, iZ, iS, gN, gsNil, gsCons, gTn, endsOf, retR_d, retR_o, sFrz, frz_d, frz_o0, frz_o1, frz_o10, tru_l, tru_t, tru_b, tru_i, tru_n, List.eraseIdx_cons_zero, List.eraseIdx_cons_succ, exists_eq', exists_eq, shf_d, bck_d, toC_nil, toC_d, toC_o, ds_nil, ds_cons, dats_nil, dats_d, dat_d, dat_o0, dat_o1, dat_o2, startE, kg, cutE, cut1_d, cut1_n, cut1_o0, cut1_o1, zipA,
  dAdd_i, dI0_i, dMod_i, dFdiv_i, dPow_i, dLt_i, dLe_i, dGt_i, dGe_i, dLt_s, dLe_s, dGt_s, dGe_s, dEq_i, dEq_s, dEq_b, dEq_is, dEq_si, dEq_ni, dEq_in, dEq_sn, dEq_ns, dNe_i, dNe_s, dNe_b, dNe_is, dNe_si, dNe_ni, dNe_in, dIs_b, dIs_n, dIsNot_b, dIsNot_n, dIx_l, dIx_t, dSl_l, dSl_t, dEq_ti, dEq_li, D.isN, atI_0, atI_1, atI_2, atI_3, atI_4, atI_5, atI_map, map_int_inj, map_str_inj,
  fLen_t, fLen_l, fLen_s, fInt_i, fInt_b, fTup_l, fTup_t, fList_l, fList_t, fMax2_i, fMin2_i, fAbs_i, isi_int_int, isi_int_bool, isi_int_str, isi_int_tup, isi_int_lst, isi_bl_int, isi_bl_bool, isi_bl_str, isi_bl_tup, isi_str_int, isi_str_bool, isi_str_str, isi_str_tup, isi_tup_int, isi_tup_bool, isi_tup_str, isi_tup_tup, isi_lst_int, isi_lst_bool, isi_lst_str, isi_lst_tup, isi_lst_lst, isi_non_int, isi_non_bool, isi_non_str, isi_non_tup, items_t, items_l,
  List.getElem?_cons_zero, List.getElem?_cons_succ, List.set_cons_zero, List.set_cons_succ, List.map_cons, List.map_nil, List.length_cons, List.length_nil, List.cons_append, List.nil_append, List.append_nil, List.replicate_succ, List.replicate_zero, Nat.reduceAdd, Nat.reduceSub, List.head?_cons, List.tail_cons, List.take_succ_cons, List.take_zero, List.take_nil,
  Option.some.injEq, Option.map_some, Option.map_none, exists_eq_left', exists_eq_left, Rv.d.injEq, Rv.o.injEq, D.int.injEq, D.bl.injEq, D.str.injEq, D.tup.injEq, D.lst.injEq, MO.lst.injEq, List.cons.injEq, and_true, true_and, and_assoc, exists_and_left, decide_eq_true_eq, if_true, Bool.true_eq_false, Bool.false_eq_true, if_false, reduceIte, Bool.not_true, Bool.not_false, eq_self, exists_const, List.filterMap_cons_some, List.filterMap_nil, List.filterMap_cons, and_self, CMul_iff, or_true, true_or, Int.reduceLT, Int.reduceLE, Int.reduceToNat, Int.reduceNeg, Int.reduceSub, Int.reduceAdd, Int.reducePow, Nat.reducePow, Int.reduceMul, ixN_def, Int.cast_ofNat_Int, Int.reduceEq, decide_true, decide_false, dMul_i, dPow_i, strD, reduceCtorEq, ite_true, ite_false, Nat.reduceLT, Nat.reduceLeDiff, Int.reduceAbs, false_and, and_false, or_false, false_or, exists_false]
      refine for_0 (fun j env M => ∃ (cr : List Int) (st sz : Int) (e5 : Option Rv), env = [some (.d (.lst (ns.map .int))), some (.o 0), some (.d (.int st)), some (.d (.int x)), some (.d (.int sz)), e5] ∧ M = [.lst (cr.map .int)] ∧ cr.length ≤ 18 * i + j ∧ (∀ c ∈ cr, 0 ≤ c ∧ c < 1000) ∧ 0 ≤ st ∧ st < 11000000 ∧ 0 ≤ sz)
        ⟨cr, _, _, _, rfl, rfl, by omega, g2, Int.emod_nonneg _ (by decide), by have := Int.emod_lt_of_pos (st * 271 + x % 1000000000000000000000000000000000000000000000000000 % 999727 + 5) (b := 10999981) (by decide); omega, Int.emod_nonneg _ (by decide)⟩ (fun j d env M hd hI => ?_) (fun env M hI => ?_)
      · obtain ⟨cr, st, zz, e5, rfl, rfl, g1, g2, g3, g4, g5⟩ := hI
        have hj : j < 18 := by
          have := (rngD_get hd).1
          exact this
        simp only [sSeq, sNil, sIf, sSet, sAsg, sPar, sPar3, sRet, sRetN, sExpr, sBreak, sCont, sSetIx, wVar, wC, wOp, wChain, wTb, wAnd, wOr, wNotT, wAndV, wOrV, wNotV, wIf, wNil, wCons, wTup, wLst, wLstO, wSl, wNoPart, wPart, wCB, wNeg, wOrT, wTruth, wJoin, wLc, sFor, wipeE, wKw, wYes, wCall, wCallO, wApp, iL, iT, iR1, iR2, iZ, iS, gN, gsNil, gsCons, gTn, endsOf, retR_d, retR_o, sFrz, frz_d, frz_o0, frz_o1, frz_o10, tru_l, tru_t, tru_b, tru_i, tru_n, List.eraseIdx_cons_zero, List.eraseIdx_cons_succ, exists_eq', exists_eq, shf_d, bck_d, toC_nil, toC_d, toC_o, ds_nil, ds_cons, dats_nil, dats_d, dat_d, dat_o0, dat_o1, dat_o2, startE, kg, cutE, cut1_d, cut1_n, cut1_o0, cut1_o1, zipA,
  dAdd_i, dI0_i, dMod_i, dFdiv_i, dPow_i, dLt_i, dLe_i, dGt_i, dGe_i, dLt_s, dLe_s, dGt_s, dGe_s, dEq_i, dEq_s, dEq_b, dEq_is, dEq_si, dEq_ni, dEq_in, dEq_sn, dEq_ns, dNe_i, dNe_s, dNe_b, dNe_is, dNe_si, dNe_ni, dNe_in, dIs_b, dIs_n, dIsNot_b, dIsNot_n, dIx_l, dIx_t, dSl_l, dSl_t, dEq_ti, dEq_li, D.isN, atI_0, atI_1, atI_2, atI_3, atI_4, atI_5, atI_map, map_int_inj, map_str_inj,
  fLen_t, fLen_l, fLen_s, fInt_i, fInt_b, fTup_l, fTup_t, fList_l, fList_t, fMax2_i, fMin2_i, fAbs_i, isi_int_int, isi_int_bool, isi_int_str, isi_int_tup, isi_int_lst, isi_bl_int, isi_bl_bool, isi_bl_str, isi_bl_tup, isi_str_int, isi_str_bool, isi_str_str, isi_str_tup, isi_tup_int, isi_tup_bool, isi_tup_str, isi_tup_tup, isi_lst_int, isi_lst_bool, isi_lst_str, isi_lst_tup, isi_lst_lst, isi_non_int, isi_non_bool, isi_non_str, isi_non_tup, items_t, items_l,
  List.getElem?_cons_zero, List.getElem?_cons_succ, List.set_cons_zero, List.set_cons_succ, List.map_cons, List.map_nil, List.length_cons, List.length_nil, List.cons_append, List.nil_append, List.append_nil, List.replicate_succ, List.replicate_zero, Nat.reduceAdd, Nat.reduceSub, List.head?_cons, List.tail_cons, List.take_succ_cons, List.take_zero, List.take_nil,
  Option.some.injEq, Option.map_some, Option.map_none, exists_eq_left', exists_eq_left, Rv.d.injEq, Rv.o.injEq, D.int.injEq, D.bl.injEq, D.str.injEq, D.tup.injEq, D.lst.injEq, MO.lst.injEq, List.cons.injEq, and_true, true_and, and_assoc, exists_and_left, decide_eq_true_eq, if_true, Bool.true_eq_false, Bool.false_eq_true, if_false, reduceIte, Bool.not_true, Bool.not_false, eq_self, exists_const, List.filterMap_cons_some, List.filterMap_nil, List.filterMap_cons, and_self, CMul_iff, or_true, true_or, Int.reduceLT, Int.reduceLE, Int.reduceToNat, Int.reduceNeg, Int.reduceSub, Int.reduceAdd, Int.reducePow, Nat.reducePow, Int.reduceMul, ixN_def, Int.cast_ofNat_Int, Int.reduceEq, decide_true, decide_false, dMul_i, dPow_i, strD, reduceCtorEq, ite_true, ite_false, Nat.reduceLT, Nat.reduceLeDiff, Int.reduceAbs, false_and, and_false, or_false, false_or, exists_false, List.length_map]
        have gz : 0 ≤ zz % 907 ∧ zz % 907 < 907 := ⟨Int.emod_nonneg _ (by decide), Int.emod_lt_of_pos _ (by decide)⟩
        have g2' : ∀ c ∈ cr ++ [zz % 907], 0 ≤ c ∧ c < 1000 := fun c hc => by
          rcases List.mem_append.mp hc with hc | hc
          · exact g2 c hc
          · have : c = zz % 907 := by simpa using hc
            omega
        refine ⟨Dw.sz' (by omega), ?_⟩
        by_cases hq : zz / 907 = 0
        · rw [if_pos hq]
          exact ⟨cr ++ [zz % 907], by simp, by simp; omega, g2', g3, g4⟩
        · rw [if_neg hq]
          exact ⟨cr ++ [zz % 907], by simp, by simp; omega, g2', g3, g4, Int.ediv_nonneg g5 (by decide)⟩
      · obtain ⟨cr, st, zz, e5, rfl, rfl, g1, g2, g3, g4, g5⟩ := hI
        simp only [sSeq, sNil, sIf, sSet, sAsg, sPar, sPar3, sRet, sRetN, sExpr, sBreak, sCont, sSetIx, wVar, wC, wOp, wChain, wTb, wAnd, wOr, wNotT, wAndV, wOrV, wNotV, wIf, wNil, wCons, wTup, wLst, wLstO, wSl, wNoPart, wPart, wCB, wNeg, wOrT, wTruth, wJoin, wLc, sFor, wipeE, wKw, wYes, wCall, wCallO, wApp, iL, iT, iR1, iR2, iZ, iS, gN, gsNil, gsCons, gTn, endsOf, retR_d, retR_o, sFrz, frz_d, frz_o0, frz_o1, frz_o10, tru_l, tru_t, tru_b, tru_i, tru_n, List.eraseIdx_cons_zero, List.eraseIdx_cons_succ, exists_eq', exists_eq, shf_d, bck_d, toC_nil, toC_d, toC_o, ds_nil, ds_cons, dats_nil, dats_d, dat_d, dat_o0, dat_o1, dat_o2, startE, kg, cutE, cut1_d, cut1_n, cut1_o0, cut1_o1, zipA,
  dAdd_i, dI0_i, dMod_i, dFdiv_i, dPow_i, dLt_i, dLe_i, dGt_i, dGe_i, dLt_s, dLe_s, dGt_s, dGe_s, dEq_i, dEq_s, dEq_b, dEq_is, dEq_si, dEq_ni, dEq_in, dEq_sn, dEq_ns, dNe_i, dNe_s, dNe_b, dNe_is, dNe_si, dNe_ni, dNe_in, dIs_b, dIs_n, dIsNot_b, dIsNot_n, dIx_l, dIx_t, dSl_l, dSl_t, dEq_ti, dEq_li, D.isN, atI_0, atI_1, atI_2, atI_3, atI_4, atI_5, atI_map, map_int_inj, map_str_inj,
  fLen_t, fLen_l, fLen_s, fInt_i, fInt_b, fTup_l, fTup_t, fList_l, fList_t, fMax2_i, fMin2_i, fAbs_i, isi_int_int, isi_int_bool, isi_int_str, isi_int_tup, isi_int_lst, isi_bl_int, isi_bl_bool, isi_bl_str, isi_bl_tup, isi_str_int, isi_str_bool, isi_str_str, isi_str_tup, isi_tup_int, isi_tup_bool, isi_tup_str, isi_tup_tup, isi_lst_int, isi_lst_bool, isi_lst_str, isi_lst_tup, isi_lst_lst, isi_non_int, isi_non_bool, isi_non_str, isi_non_tup, items_t, items_l,
  List.getElem?_cons_zero, List.getElem?_cons_succ, List.set_cons_zero, List.set_cons_succ, List.map_cons, List.map_nil, List.length_cons, List.length_nil, List.cons_append, List.nil_append, List.append_nil, List.replicate_succ, List.replicate_zero, Nat.reduceAdd, Nat.reduceSub, List.head?_cons, List.tail_cons, List.take_succ_cons, List.take_zero, List.take_nil,
  Option.some.injEq, Option.map_some, Option.map_none, exists_eq_left', exists_eq_left, Rv.d.injEq, Rv.o.injEq, D.int.injEq, D.bl.injEq, D.str.injEq, D.tup.injEq, D.lst.injEq, MO.lst.injEq, List.cons.injEq, and_true, true_and, and_assoc, exists_and_left, decide_eq_true_eq, if_true, Bool.true_eq_false, Bool.false_eq_true, if_false, reduceIte, Bool.not_true, Bool.not_false, eq_self, exists_const, List.filterMap_cons_some, List.filterMap_nil, List.filterMap_cons, and_self, CMul_iff, or_true, true_or, Int.reduceLT, Int.reduceLE, Int.reduceToNat, Int.reduceNeg, Int.reduceSub, Int.reduceAdd, Int.reducePow, Nat.reducePow, Int.reduceMul, ixN_def, Int.cast_ofNat_Int, Int.reduceEq, decide_true, decide_false, dMul_i, dPow_i, strD, reduceCtorEq, ite_true, ite_false, Nat.reduceLT, Nat.reduceLeDiff, Int.reduceAbs, false_and, and_false, or_false, false_or, exists_false]
        rw [rng_len] at g1
        exact ⟨by omega, g2, g3, g4⟩
  · obtain ⟨cr, st, e3, e4, e5, rfl, rfl, g1, g2, g3, g4⟩ := hI
    have hlen : cr.length ≤ 10000 := by
      rw [List.length_map, List.length_take] at g1; omega
    simp only [sSeq, sNil, sIf, sSet, sAsg, sPar, sPar3, sRet, sRetN, sExpr, sBreak, sCont, sSetIx, wVar, wC, wOp, wChain, wTb, wAnd, wOr, wNotT, wAndV, wOrV, wNotV, wIf, wNil, wCons, wTup, wLst, wLstO, wSl, wNoPart, wPart, wCB, wNeg, wOrT, wTruth, wJoin, wLc, sFor, wipeE, wKw, wYes, wCall, wCallO, wApp, iL, iT, iR1, iR2, iZ, iS, gN, gsNil, gsCons, gTn, endsOf, retR_d, retR_o, sFrz, frz_d, frz_o0, frz_o1, frz_o10, tru_l, tru_t, tru_b, tru_i, tru_n, List.eraseIdx_cons_zero, List.eraseIdx_cons_succ, exists_eq', exists_eq, shf_d, bck_d, toC_nil, toC_d, toC_o, ds_nil, ds_cons, dats_nil, dats_d, dat_d, dat_o0, dat_o1, dat_o2, startE, kg, cutE, cut1_d, cut1_n, cut1_o0, cut1_o1, zipA,
  dAdd_i, dI0_i, dMod_i, dFdiv_i, dPow_i, dLt_i, dLe_i, dGt_i, dGe_i, dLt_s, dLe_s, dGt_s, dGe_s, dEq_i, dEq_s, dEq_b, dEq_is, dEq_si, dEq_ni, dEq_in, dEq_sn, dEq_ns, dNe_i, dNe_s, dNe_b, dNe_is, dNe_si, dNe_ni, dNe_in, dIs_b, dIs_n, dIsNot_b, dIsNot_n, dIx_l, dIx_t, dSl_l, dSl_t, dEq_ti, dEq_li, D.isN, atI_0, atI_1, atI_2, atI_3, atI_4, atI_5, atI_map, map_int_inj, map_str_inj,
  fLen_t, fLen_l, fLen_s, fInt_i, fInt_b, fTup_l, fTup_t, fList_l, fList_t, fMax2_i, fMin2_i, fAbs_i, isi_int_int, isi_int_bool, isi_int_str, isi_int_tup, isi_int_lst, isi_bl_int, isi_bl_bool, isi_bl_str, isi_bl_tup, isi_str_int, isi_str_bool, isi_str_str, isi_str_tup, isi_tup_int, isi_tup_bool, isi_tup_str, isi_tup_tup, isi_lst_int, isi_lst_bool, isi_lst_str, isi_lst_tup, isi_lst_lst, isi_non_int, isi_non_bool, isi_non_str, isi_non_tup, items_t, items_l,
  List.getElem?_cons_zero, List.getElem?_cons_succ, List.set_cons_zero, List.set_cons_succ, List.map_cons, List.map_nil, List.length_cons, List.length_nil, List.cons_append, List.nil_append, List.append_nil, List.replicate_succ, List.replicate_zero, Nat.reduceAdd, Nat.reduceSub, List.head?_cons, List.tail_cons, List.take_succ_cons, List.take_zero, List.take_nil,
  Option.some.injEq, Option.map_some, Option.map_none, exists_eq_left', exists_eq_left, Rv.d.injEq, Rv.o.injEq, D.int.injEq, D.bl.injEq, D.str.injEq, D.tup.injEq, D.lst.injEq, MO.lst.injEq, List.cons.injEq, and_true, true_and, and_assoc, exists_and_left, decide_eq_true_eq, if_true, Bool.true_eq_false, Bool.false_eq_true, if_false, reduceIte, Bool.not_true, Bool.not_false, eq_self, exists_const, List.filterMap_cons_some, List.filterMap_nil, List.filterMap_cons, and_self, CMul_iff, or_true, true_or, Int.reduceLT, Int.reduceLE, Int.reduceToNat, Int.reduceNeg, Int.reduceSub, Int.reduceAdd, Int.reducePow, Nat.reducePow, Int.reduceMul, ixN_def, Int.cast_ofNat_Int, Int.reduceEq, decide_true, decide_false, dMul_i, dPow_i, strD, reduceCtorEq, ite_true, ite_false, Nat.reduceLT, Nat.reduceLeDiff, Int.reduceAbs, false_and, and_false, or_false, false_or, exists_false]
    cases cr with
    | nil =>
      simp only [sSeq, sNil, sIf, sSet, sAsg, sPar, sPar3, sRet, sRetN, sExpr, sBreak, sCont, sSetIx, wVar, wC, wOp, wChain, wTb, wAnd, wOr, wNotT, wAndV, wOrV, wNotV, wIf, wNil, wCons, wTup, wLst, wLstO, wSl, wNoPart, wPart, wCB, wNeg, wOrT, wTruth, wJoin, wLc, sFor, wipeE, wKw, wYes, wCall, wCallO, wApp, iL, iT, iR1, iR2, iZ, iS, gN, gsNil, gsCons, gTn, endsOf, retR_d, retR_o, sFrz, frz_d, frz_o0, frz_o1, frz_o10, tru_l, tru_t, tru_b, tru_i, tru_n, List.eraseIdx_cons_zero, List.eraseIdx_cons_succ, exists_eq', exists_eq, shf_d, bck_d, toC_nil, toC_d, toC_o, ds_nil, ds_cons, dats_nil, dats_d, dat_d, dat_o0, dat_o1, dat_o2, startE, kg, cutE, cut1_d, cut1_n, cut1_o0, cut1_o1, zipA,
  dAdd_i, dI0_i, dMod_i, dFdiv_i, dPow_i, dLt_i, dLe_i, dGt_i, dGe_i, dLt_s, dLe_s, dGt_s, dGe_s, dEq_i, dEq_s, dEq_b, dEq_is, dEq_si, dEq_ni, dEq_in, dEq_sn, dEq_ns, dNe_i, dNe_s, dNe_b, dNe_is, dNe_si, dNe_ni, dNe_in, dIs_b, dIs_n, dIsNot_b, dIsNot_n, dIx_l, dIx_t, dSl_l, dSl_t, dEq_ti, dEq_li, D.isN, atI_0, atI_1, atI_2, atI_3, atI_4, atI_5, atI_map, map_int_inj, map_str_inj,
  fLen_t, fLen_l, fLen_s, fInt_i, fInt_b, fTup_l, fTup_t, fList_l, fList_t, fMax2_i, fMin2_i, fAbs_i, isi_int_int, isi_int_bool, isi_int_str, isi_int_tup, isi_int_lst, isi_bl_int, isi_bl_bool, isi_bl_str, isi_bl_tup, isi_str_int, isi_str_bool, isi_str_str, isi_str_tup, isi_tup_int, isi_tup_bool, isi_tup_str, isi_tup_tup, isi_lst_int, isi_lst_bool, isi_lst_str, isi_lst_tup, isi_lst_lst, isi_non_int, isi_non_bool, isi_non_str, isi_non_tup, items_t, items_l,
  List.getElem?_cons_zero, List.getElem?_cons_succ, List.set_cons_zero, List.set_cons_succ, List.map_cons, List.map_nil, List.length_cons, List.length_nil, List.cons_append, List.nil_append, List.append_nil, List.replicate_succ, List.replicate_zero, Nat.reduceAdd, Nat.reduceSub, List.head?_cons, List.tail_cons, List.take_succ_cons, List.take_zero, List.take_nil,
  Option.some.injEq, Option.map_some, Option.map_none, exists_eq_left', exists_eq_left, Rv.d.injEq, Rv.o.injEq, D.int.injEq, D.bl.injEq, D.str.injEq, D.tup.injEq, D.lst.injEq, MO.lst.injEq, List.cons.injEq, and_true, true_and, and_assoc, exists_and_left, decide_eq_true_eq, if_true, Bool.true_eq_false, Bool.false_eq_true, if_false, reduceIte, Bool.not_true, Bool.not_false, eq_self, exists_const, List.filterMap_cons_some, List.filterMap_nil, List.filterMap_cons, and_self, CMul_iff, or_true, true_or, Int.reduceLT, Int.reduceLE, Int.reduceToNat, Int.reduceNeg, Int.reduceSub, Int.reduceAdd, Int.reducePow, Nat.reducePow, Int.reduceMul, ixN_def, Int.cast_ofNat_Int, Int.reduceEq, decide_true, decide_false, dMul_i, dPow_i, strD, reduceCtorEq, ite_true, ite_false, Nat.reduceLT, Nat.reduceLeDiff, Int.reduceAbs, false_and, and_false, or_false, false_or, exists_false, List.isEmpty_nil]
      exact ⟨sz (by decide), sz (by decide), h _ ⟨[4], st, 0, rfl, by simp, by simp, by simp, g3, g4, by decide, by decide⟩⟩
    | cons c cr =>
      simp only [sSeq, sNil, sIf, sSet, sAsg, sPar, sPar3, sRet, sRetN, sExpr, sBreak, sCont, sSetIx, wVar, wC, wOp, wChain, wTb, wAnd, wOr, wNotT, wAndV, wOrV, wNotV, wIf, wNil, wCons, wTup, wLst, wLstO, wSl, wNoPart, wPart, wCB, wNeg, wOrT, wTruth, wJoin, wLc, sFor, wipeE, wKw, wYes, wCall, wCallO, wApp, iL, iT, iR1, iR2, iZ, iS, gN, gsNil, gsCons, gTn, endsOf, retR_d, retR_o, sFrz, frz_d, frz_o0, frz_o1, frz_o10, tru_l, tru_t, tru_b, tru_i, tru_n, List.eraseIdx_cons_zero, List.eraseIdx_cons_succ, exists_eq', exists_eq, shf_d, bck_d, toC_nil, toC_d, toC_o, ds_nil, ds_cons, dats_nil, dats_d, dat_d, dat_o0, dat_o1, dat_o2, startE, kg, cutE, cut1_d, cut1_n, cut1_o0, cut1_o1, zipA,
  dAdd_i, dI0_i, dMod_i, dFdiv_i, dPow_i, dLt_i, dLe_i, dGt_i, dGe_i, dLt_s, dLe_s, dGt_s, dGe_s, dEq_i, dEq_s, dEq_b, dEq_is, dEq_si, dEq_ni, dEq_in, dEq_sn, dEq_ns, dNe_i, dNe_s, dNe_b, dNe_is, dNe_si, dNe_ni, dNe_in, dIs_b, dIs_n, dIsNot_b, dIsNot_n, dIx_l, dIx_t, dSl_l, dSl_t, dEq_ti, dEq_li, D.isN, atI_0, atI_1, atI_2, atI_3, atI_4, atI_5, atI_map, map_int_inj, map_str_inj,
  fLen_t, fLen_l, fLen_s, fInt_i, fInt_b, fTup_l, fTup_t, fList_l, fList_t, fMax2_i, fMin2_i, fAbs_i, isi_int_int, isi_int_bool, isi_int_str, isi_int_tup, isi_int_lst, isi_bl_int, isi_bl_bool, isi_bl_str, isi_bl_tup, isi_str_int, isi_str_bool, isi_str_str, isi_str_tup, isi_tup_int, isi_tup_bool, isi_tup_str, isi_tup_tup, isi_lst_int, isi_lst_bool, isi_lst_str, isi_lst_tup, isi_lst_lst, isi_non_int, isi_non_bool, isi_non_str, isi_non_tup, items_t, items_l,
  List.getElem?_cons_zero, List.getElem?_cons_succ, List.set_cons_zero, List.set_cons_succ, List.map_cons, List.map_nil, List.length_cons, List.length_nil, List.cons_append, List.nil_append, List.append_nil, List.replicate_succ, List.replicate_zero, Nat.reduceAdd, Nat.reduceSub, List.head?_cons, List.tail_cons, List.take_succ_cons, List.take_zero, List.take_nil,
  Option.some.injEq, Option.map_some, Option.map_none, exists_eq_left', exists_eq_left, Rv.d.injEq, Rv.o.injEq, D.int.injEq, D.bl.injEq, D.str.injEq, D.tup.injEq, D.lst.injEq, MO.lst.injEq, List.cons.injEq, and_true, true_and, and_assoc, exists_and_left, decide_eq_true_eq, if_true, Bool.true_eq_false, Bool.false_eq_true, if_false, reduceIte, Bool.not_true, Bool.not_false, eq_self, exists_const, List.filterMap_cons_some, List.filterMap_nil, List.filterMap_cons, and_self, CMul_iff, or_true, true_or, Int.reduceLT, Int.reduceLE, Int.reduceToNat, Int.reduceNeg, Int.reduceSub, Int.reduceAdd, Int.reducePow, Nat.reducePow, Int.reduceMul, ixN_def, Int.cast_ofNat_Int, Int.reduceEq, decide_true, decide_false, dMul_i, dPow_i, strD, reduceCtorEq, ite_true, ite_false, Nat.reduceLT, Nat.reduceLeDiff, Int.reduceAbs, false_and, and_false, or_false, false_or, exists_false, List.isEmpty_cons]
      exact ⟨sz (by decide), h _ ⟨c :: cr, st, 0, rfl, by simp, hlen, g2, g3, g4, by decide, by decide⟩⟩
end Lk00
set_option Elab.async false
set_option linter.all false
set_option maxRecDepth 100000
set_option maxHeartbeats 4000000
namespace Lk00
open PySem PySem.Spec PyProof.Rows L2 Dw
def c__law_pick : Ct := fun rs M R => ∃ (n : Nat) (tr : MO) (m : Int), rs = [.o 0, .d (.int m)] ∧ M = [tr] ∧ TrayOk n tr ∧ n ≤ 1000000 ∧ 0 < m ∧ ∀ r tr', 0 ≤ r → r < m → TrayOk (n + 1) tr' → R (.d (.int r)) [tr']
theorem ln__law_pick : ∀ rs M R, c__law_pick rs M R → rs.length = 2 ∧ M.length = 1 := by
  rintro rs M R ⟨n, tr, m, rfl, rfl, _⟩; exact ⟨rfl, rfl⟩
set_option maxHeartbeats 8000000 in
theorem ok__law_pick {P : Program} {w : World} {K : PySem.W.Frag} {mg : Str → Option Value} {base : Heap} (T : Tx K mg) : FnOk P w K mg base CX0 1 T.a__law_pick T.fd__law_pick ["tray", "many"] (spD K c__law_pick) := by
  refine fnD (n0 := 1) T.F__law_pick sc__law_pick ln__law_pick fun cdv A outer s H E hr => ⟨_, (qss_cons (qs_set (i := 2) sc__law_pick.nd rfl (.inl rfl) (qe_ix (qv 0) qe_int)) (qss_cons (qs_setIx (qe_add (qv 2) qe_int) (qv 0) qe_int) (qss_cons (qs_set (i := 3) sc__law_pick.nd rfl (.inl rfl) (qe_mod (qe_intc (by rfl) T.n_int (qa_cons (qe_mul (qe_add (qe_ix (qv 0) qe_int) (qe_mul (qv 2) qe_int)) (qe_add (qe_mul (qv 2) qe_int) qe_int)) qa_nil)) qe_int)) (qss_one (qs_ret (qe_mod (qe_intc (by rfl) T.n_int (qa_cons (qe_add (qe_ix (qe_ix (qv 0) qe_int) (qe_mod (qe_intc (by rfl) T.n_int (qa_cons (qv 2) qa_nil)) (qe_len (by rfl) T.n_len (qa_cons (qe_ix (qv 0) qe_int) qa_nil)))) (qe_fdiv (qv 3) qe_int)) qa_nil)) (qv 1))))))), fun rs M R h => ?_⟩
  obtain ⟨n, tr, m, rfl, rfl, ht, hn, hm, h⟩ := h
  obtain ⟨cr, st, tn, rfl, h2, h3, h4, h5, h6, h7, h8⟩ := ht.ex
  have hc0 : 0 < (cr.length : Int) := by have := List.length_pos_iff.mpr h2; omega
  obtain ⟨c, hc⟩ := atI_in (xs := cr) (i := tn % (cr.length : Int)) (Int.emod_nonneg _ (by omega)) (Int.emod_lt_of_pos _ hc0)
  simp only [sSeq, sNil, sIf, sSet, sAsg, sPar, sPar3, sRet, sRetN, sExpr, sBreak, sCont, sSetIx, wVar, wC, wOp, wChain, wTb, wAnd, wOr, wNotT, wAndV, wOrV, wNotV, wIf, wNil, wCons, wTup, wLst, wLstO, wSl, wNoPart, wPart, wCB, wNeg, wOrT, wTruth, wJoin, wLc, sFor, wipeE, wKw, wYes, wCall, wCallO, wApp, iL, iT, iR1, iR2, iZ, iS, gN, gsNil, gsCons, gTn, endsOf, retR_d, retR_o, sFrz, frz_d, frz_o0, frz_o1, frz_o10, tru_l, tru_t, tru_b, tru_i, tru_n, List.eraseIdx_cons_zero, List.eraseIdx_cons_succ, exists_eq', exists_eq, shf_d, bck_d, toC_nil, toC_d, toC_o, ds_nil, ds_cons, dats_nil, dats_d, dat_d, dat_o0, dat_o1, dat_o2, startE, kg, cutE, cut1_d, cut1_n, cut1_o0, cut1_o1, zipA,
  dAdd_i, dI0_i, dMod_i, dFdiv_i, dPow_i, dLt_i, dLe_i, dGt_i, dGe_i, dLt_s, dLe_s, dGt_s, dGe_s, dEq_i, dEq_s, dEq_b, dEq_is, dEq_si, dEq_ni, dEq_in, dEq_sn, dEq_ns, dNe_i, dNe_s, dNe_b, dNe_is, dNe_si, dNe_ni, dNe_in, dIs_b, dIs_n, dIsNot_b, dIsNot_n, dIx_l, dIx_t, dSl_l, dSl_t, dEq_ti, dEq_li, D.isN, atI_0, atI_1, atI_2, atI_3, atI_4, atI_5, atI_map, map_int_inj, map_str_inj,
  fLen_t, fLen_l, fLen_s, fInt_i, fInt_b, fTup_l, fTup_t, fList_l, fList_t, fMax2_i, fMin2_i, fAbs_i, isi_int_int, isi_int_bool, isi_int_str, isi_int_tup, isi_int_lst, isi_bl_int, isi_bl_bool, isi_bl_str, isi_bl_tup, isi_str_int, isi_str_bool, isi_str_str, isi_str_tup, isi_tup_int, isi_tup_bool, isi_tup_str, isi_tup_tup, isi_lst_int, isi_lst_bool, isi_lst_str, isi_lst_tup, isi_lst_lst, isi_non_int, isi_non_bool, isi_non_str, isi_non_tup, items_t, items_l,
  List.getElem?_cons_zero, List.getElem?_cons_succ, List.set_cons_zero, List.set_cons_succ, List.map_cons, List.map_nil, List.length_cons, List.length_nil, List.cons_append, List.nil_append, List.append_nil, List.replicate_succ, List.replicate_zero, Nat.reduceAdd, Nat.reduceSub, List.head?_cons, List.tail_cons, List.take_succ_cons, List.take_zero, List.take_nil,
  Option.some.injEq, Option.map_some, Option.map_none, exists_eq_left', exists_eq_left, Rv.d.injEq, Rv.o.injEq, D.int.injEq, D.bl.injEq, D.str.injEq, D.tup.injEq, D.lst.injEq, MO.lst.injEq, List.cons.injEq, and_true, true_and, and_assoc, exists_and_left, decide_eq_true_eq, if_true, Bool.true_eq_false, Bool.false_eq_true, if_false, reduceIte, Bool.not_true, Bool.not_false, eq_self, exists_const, List.filterMap_cons_some, List.filterMap_nil, List.filterMap_cons, and_self, CMul_iff, or_true, true_or, Int.reduceLT, Int.reduceLE, Int.reduceToNat, Int.reduceNeg, Int.reduceSub, Int.reduceAdd, Int.reducePow, Nat.reducePow, Int.reduceMul, ixN_def, Int.cast_ofNat_Int, Int.reduceEq, decide_true, decide_false, dMul_i, dPow_i, strD, reduceCtorEq, ite_true, ite_false, Nat.reduceLT, Nat.reduceLeDiff, Int.reduceAbs, false_and, and_false, or_false, false_or, exists_false, List.length_map]
  rw [if_pos (Or.inl ⟨by omega, by omega⟩), if_pos hc0]
  simp only [sSeq, sNil, sIf, sSet, sAsg, sPar, sPar3, sRet, sRetN, sExpr, sBreak, sCont, sSetIx, wVar, wC, wOp, wChain, wTb, wAnd, wOr, wNotT, wAndV, wOrV, wNotV, wIf, wNil, wCons, wTup, wLst, wLstO, wSl, wNoPart, wPart, wCB, wNeg, wOrT, wTruth, wJoin, wLc, sFor, wipeE, wKw, wYes, wCall, wCallO, wApp, iL, iT, iR1, iR2, iZ, iS, gN, gsNil, gsCons, gTn, endsOf, retR_d, retR_o, sFrz, frz_d, frz_o0, frz_o1, frz_o10, tru_l, tru_t, tru_b, tru_i, tru_n, List.eraseIdx_cons_zero, List.eraseIdx_cons_succ, exists_eq', exists_eq, shf_d, bck_d, toC_nil, toC_d, toC_o, ds_nil, ds_cons, dats_nil, dats_d, dat_d, dat_o0, dat_o1, dat_o2, startE, kg, cutE, cut1_d, cut1_n, cut1_o0, cut1_o1, zipA,
  dAdd_i, dI0_i, dMod_i, dFdiv_i, dPow_i, dLt_i, dLe_i, dGt_i, dGe_i, dLt_s, dLe_s, dGt_s, dGe_s, dEq_i, dEq_s, dEq_b, dEq_is, dEq_si, dEq_ni, dEq_in, dEq_sn, dEq_ns, dNe_i, dNe_s, dNe_b, dNe_is, dNe_si, dNe_ni, dNe_in, dIs_b, dIs_n, dIsNot_b, dIsNot_n, dIx_l, dIx_t, dSl_l, dSl_t, dEq_ti, dEq_li, D.isN, atI_0, atI_1, atI_2, atI_3, atI_4, atI_5, atI_map, map_int_inj, map_str_inj,
  fLen_t, fLen_l, fLen_s, fInt_i, fInt_b, fTup_l, fTup_t, fList_l, fList_t, fMax2_i, fMin2_i, fAbs_i, isi_int_int, isi_int_bool, isi_int_str, isi_int_tup, isi_int_lst, isi_bl_int, isi_bl_bool, isi_bl_str, isi_bl_tup, isi_str_int, isi_str_bool, isi_str_str, isi_str_tup, isi_tup_int, isi_tup_bool, isi_tup_str, isi_tup_tup, isi_lst_int, isi_lst_bool, isi_lst_str, isi_lst_tup, isi_lst_lst, isi_non_int, isi_non_bool, isi_non_str, isi_non_tup, items_t, items_l,
  List.getElem?_cons_zero, List.getElem?_cons_succ, List.set_cons_zero, List.set_cons_succ, List.map_cons, List.map_nil, List.length_cons, List.length_nil, List.cons_append, List.nil_append, List.append_nil, List.replicate_succ, List.replicate_zero, Nat.reduceAdd, Nat.reduceSub, List.head?_cons, List.tail_cons, List.take_succ_cons, List.take_zero, List.take_nil,
  Option.some.injEq, Option.map_some, Option.map_none, exists_eq_left', exists_eq_left, Rv.d.injEq, Rv.o.injEq, D.int.injEq, D.bl.injEq, D.str.injEq, D.tup.injEq, D.lst.injEq, MO.lst.injEq, List.cons.injEq, and_true, true_and, and_assoc, exists_and_left, decide_eq_true_eq, if_true, Bool.true_eq_false, Bool.false_eq_true, if_false, reduceIte, Bool.not_true, Bool.not_false, eq_self, exists_const, List.filterMap_cons_some, List.filterMap_nil, List.filterMap_cons, and_self, CMul_iff, or_true, true_or, Int.reduceLT, Int.reduceLE, Int.reduceToNat, Int.reduceNeg, Int.reduceSub, Int.reduceAdd, Int.reducePow, Nat.reducePow, Int.reduceMul, ixN_def, Int.cast_ofNat_Int, Int.reduceEq, decide_true, decide_false, dMul_i, dPow_i, strD, reduceCtorEq, ite_true, ite_false, Nat.reduceLT, Nat.reduceLeDiff, Int.reduceAbs, false_and, and_false, or_false, false_or, exists_false, hc, if_pos hm]
  exact h _ _ (Int.emod_nonneg _ (by omega)) (Int.emod_lt_of_pos _ hm) ⟨cr, st, tn + 1, rfl, h2, h3, h4, h5, h6, by omega, by omega⟩
end Lk00
set_option Elab.async false
set_option linter.all false
set_option maxRecDepth 100000
set_option maxHeartbeats 4000000
namespace Lk00
open PySem PySem.Spec PyProof.Rows L2 Dw
def c__law_same : Ct := fun rs M R => ∃ d, rs = [.d d, .d d] ∧ M = [] ∧ SameOk d ∧ R (.d (.bl true)) []
theorem ln__law_same : ∀ rs M R, c__law_same rs M R → rs.length = 2 ∧ M.length = 0 := by
  rintro rs M R ⟨d, rfl, rfl, _⟩; exact ⟨rfl, rfl⟩
set_option maxHeartbeats 8000000 in
theorem ok__law_same {P : Program} {w : World} {K : PySem.W.Frag} {mg : Str → Option Value} {base : Heap} (T : Tx K mg) : FnOk P w K mg base CX0 1 T.a__law_same T.fd__law_same ["told", "due"] (spD K c__law_same) := by
  refine fnD (n0 := 0) T.F__law_same sc__law_same ln__law_same fun cdv A outer s H E hr => ⟨_, (qss_cons (qs_if (qt_is (qv 1) qe_non) (qss_one (qs_ret (qe_is (qv 0) qe_non))) qss_nil) (qss_cons (qs_if (qt_val (qe_isi (by rfl) T.n_isinstance (qa_cons (qv 1) (qa_cons (qe_ty (by rfl) T.n_bool boot_bool) qa_nil)))) (qss_one (qs_ret (qe_and (qe_isi (by rfl) T.n_isinstance (qa_cons (qv 0) (qa_cons (qe_ty (by rfl) T.n_bool boot_bool) qa_nil))) (qe_one (qe_eq (u64 hr) (qv 0) (qv 1)))))) qss_nil) (qss_cons (qs_if (qt_val (qe_isi (by rfl) T.n_isinstance (qa_cons (qv 1) (qa_cons (qe_ty (by rfl) T.n_tuple boot_tuple) qa_nil)))) (qss_cons (qs_if (QW.t (qw_or (qt_not (qt_val (qe_isi (by rfl) T.n_isinstance (qa_cons (qv 0) (qa_cons (qe_ty (by rfl) T.n_tuple boot_tuple) qa_nil))))) (qw_or1 (qt_ne (u64 hr) (qe_len (by rfl) T.n_len (qa_cons (qv 0) qa_nil)) (qe_len (by rfl) T.n_len (qa_cons (qv 1) qa_nil)))))) (qss_one (qs_ret qe_bl)) qss_nil) (qss_cons (qs_for PassesOwn.never rfl (qi_range1 (by rfl) T.n_range (qa_cons (qe_len (by rfl) T.n_len (qa_cons (qv 1) qa_nil)) qa_nil)) (qg_name (i := 2) sc__law_same.nd rfl (by first | exact .inl rfl | exact .inr rfl)) (qss_one (qs_if (QW.t (qw_or (qt_not (qt_val (qe_isi (by rfl) T.n_isinstance (qa_cons (qe_ix (qv 0) (qv 2)) (qa_cons (qe_ty (by rfl) T.n_int boot_int) qa_nil))))) (qw_or (qt_val (qe_isi (by rfl) T.n_isinstance (qa_cons (qe_ix (qv 0) (qv 2)) (qa_cons (qe_ty (by rfl) T.n_bool boot_bool) qa_nil)))) (qw_or1 (qt_ne (u64 hr) (qe_ix (qv 0) (qv 2)) (qe_ix (qv 1) (qv 2))))))) (qss_one (qs_ret qe_bl)) qss_nil))) (qss_one (qs_ret qe_bl)))) qss_nil) (qss_one (qs_ret (qe_and (qe_isi (by rfl) T.n_isinstance (qa_cons (qv 0) (qa_cons (qe_ty (by rfl) T.n_int boot_int) qa_nil))) (qe_and (qe_not (qe_isi (by rfl) T.n_isinstance (qa_cons (qv 0) (qa_cons (qe_ty (by rfl) T.n_bool boot_bool) qa_nil)))) (qe_one (qe_eq (u64 hr) (qv 0) (qv 1)))))))))), fun rs M R h => ?_⟩
  obtain ⟨d, rfl, rfl, hd, h⟩ := h
  rcases hd with rfl | ⟨b, rfl⟩ | ⟨i, rfl⟩ | ⟨ns, rfl, hl⟩
  · simp only [sSeq, sNil, sIf, sSet, sAsg, sPar, sPar3, sRet, sRetN, sExpr, sBreak, sCont, sSetIx, wVar, wC, wOp, wChain, wTb, wAnd, wOr, wNotT, wAndV, wOrV, wNotV, wIf, wNil, wCons, wTup, wLst, wLstO, wSl, wNoPart, wPart, wCB, wNeg, wOrT, wTruth, wJoin, wLc, sFor, wipeE, wKw, wYes, wCall, wCallO, wApp, iL, iT, iR1, iR2, iZ, iS, gN, gsNil, gsCons, gTn, endsOf, retR_d, retR_o, sFrz, frz_d, frz_o0, frz_o1, frz_o10, tru_l, tru_t, tru_b, tru_i, tru_n, List.eraseIdx_cons_zero, List.eraseIdx_cons_succ, exists_eq', exists_eq, shf_d, bck_d, toC_nil, toC_d, toC_o, ds_nil, ds_cons, dats_nil, dats_d, dat_d, dat_o0, dat_o1, dat_o2, startE, kg, cutE, cut1_d, cut1_n, cut1_o0, cut1_o1, zipA,
  dAdd_i, dI0_i, dMod_i, dFdiv_i, dPow_i, dLt_i, dLe_i, dGt_i, dGe_i, dLt_s, dLe_s, dGt_s, dGe_s, dEq_i, dEq_s, dEq_b, dEq_is, dEq_si, dEq_ni, dEq_in, dEq_sn, dEq_ns, dNe_i, dNe_s, dNe_b, dNe_is, dNe_si, dNe_ni, dNe_in, dIs_b, dIs_n, dIsNot_b, dIsNot_n, dIx_l, dIx_t, dSl_l, dSl_t, dEq_ti, dEq_li, D.isN, atI_0, atI_1, atI_2, atI_3, atI_4, atI_5, atI_map, map_int_inj, map_str_inj,
  fLen_t, fLen_l, fLen_s, fInt_i, fInt_b, fTup_l, fTup_t, fList_l, fList_t, fMax2_i, fMin2_i, fAbs_i, isi_int_int, isi_int_bool, isi_int_str, isi_int_tup, isi_int_lst, isi_bl_int, isi_bl_bool, isi_bl_str, isi_bl_tup, isi_str_int, isi_str_bool, isi_str_str, isi_str_tup, isi_tup_int, isi_tup_bool, isi_tup_str, isi_tup_tup, isi_lst_int, isi_lst_bool, isi_lst_str, isi_lst_tup, isi_lst_lst, isi_non_int, isi_non_bool, isi_non_str, isi_non_tup, items_t, items_l,
  List.getElem?_cons_zero, List.getElem?_cons_succ, List.set_cons_zero, List.set_cons_succ, List.map_cons, List.map_nil, List.length_cons, List.length_nil, List.cons_append, List.nil_append, List.append_nil, List.replicate_succ, List.replicate_zero, Nat.reduceAdd, Nat.reduceSub, List.head?_cons, List.tail_cons, List.take_succ_cons, List.take_zero, List.take_nil,
  Option.some.injEq, Option.map_some, Option.map_none, exists_eq_left', exists_eq_left, Rv.d.injEq, Rv.o.injEq, D.int.injEq, D.bl.injEq, D.str.injEq, D.tup.injEq, D.lst.injEq, MO.lst.injEq, List.cons.injEq, and_true, true_and, and_assoc, exists_and_left, decide_eq_true_eq, if_true, Bool.true_eq_false, Bool.false_eq_true, if_false, reduceIte, Bool.not_true, Bool.not_false, eq_self, exists_const, List.filterMap_cons_some, List.filterMap_nil, List.filterMap_cons, and_self, CMul_iff, or_true, true_or, Int.reduceLT, Int.reduceLE, Int.reduceToNat, Int.reduceNeg, Int.reduceSub, Int.reduceAdd, Int.reducePow, Nat.reducePow, Int.reduceMul, ixN_def, Int.cast_ofNat_Int, Int.reduceEq, decide_true, decide_false, dMul_i, dPow_i, strD, reduceCtorEq, ite_true, ite_false, Nat.reduceLT, Nat.reduceLeDiff, Int.reduceAbs, false_and, and_false, or_false, false_or, exists_false]; exact h
  · simp only [sSeq, sNil, sIf, sSet, sAsg, sPar, sPar3, sRet, sRetN, sExpr, sBreak, sCont, sSetIx, wVar, wC, wOp, wChain, wTb, wAnd, wOr, wNotT, wAndV, wOrV, wNotV, wIf, wNil, wCons, wTup, wLst, wLstO, wSl, wNoPart, wPart, wCB, wNeg, wOrT, wTruth, wJoin, wLc, sFor, wipeE, wKw, wYes, wCall, wCallO, wApp, iL, iT, iR1, iR2, iZ, iS, gN, gsNil, gsCons, gTn, endsOf, retR_d, retR_o, sFrz, frz_d, frz_o0, frz_o1, frz_o10, tru_l, tru_t, tru_b, tru_i, tru_n, List.eraseIdx_cons_zero, List.eraseIdx_cons_succ, exists_eq', exists_eq, shf_d, bck_d, toC_nil, toC_d, toC_o, ds_nil, ds_cons, dats_nil, dats_d, dat_d, dat_o0, dat_o1, dat_o2, startE, kg, cutE, cut1_d, cut1_n, cut1_o0, cut1_o1, zipA,
  dAdd_i, dI0_i, dMod_i, dFdiv_i, dPow_i, dLt_i, dLe_i, dGt_i, dGe_i, dLt_s, dLe_s, dGt_s, dGe_s, dEq_i, dEq_s, dEq_b, dEq_is, dEq_si, dEq_ni, dEq_in, dEq_sn, dEq_ns, dNe_i, dNe_s, dNe_b, dNe_is, dNe_si, dNe_ni, dNe_in, dIs_b, dIs_n, dIsNot_b, dIsNot_n, dIx_l, dIx_t, dSl_l, dSl_t, dEq_ti, dEq_li, D.isN, atI_0, atI_1, atI_2, atI_3, atI_4, atI_5, atI_map, map_int_inj, map_str_inj,
  fLen_t, fLen_l, fLen_s, fInt_i, fInt_b, fTup_l, fTup_t, fList_l, fList_t, fMax2_i, fMin2_i, fAbs_i, isi_int_int, isi_int_bool, isi_int_str, isi_int_tup, isi_int_lst, isi_bl_int, isi_bl_bool, isi_bl_str, isi_bl_tup, isi_str_int, isi_str_bool, isi_str_str, isi_str_tup, isi_tup_int, isi_tup_bool, isi_tup_str, isi_tup_tup, isi_lst_int, isi_lst_bool, isi_lst_str, isi_lst_tup, isi_lst_lst, isi_non_int, isi_non_bool, isi_non_str, isi_non_tup, items_t, items_l,
  List.getElem?_cons_zero, List.getElem?_cons_succ, List.set_cons_zero, List.set_cons_succ, List.map_cons, List.map_nil, List.length_cons, List.length_nil, List.cons_append, List.nil_append, List.append_nil, List.replicate_succ, List.replicate_zero, Nat.reduceAdd, Nat.reduceSub, List.head?_cons, List.tail_cons, List.take_succ_cons, List.take_zero, List.take_nil,
  Option.some.injEq, Option.map_some, Option.map_none, exists_eq_left', exists_eq_left, Rv.d.injEq, Rv.o.injEq, D.int.injEq, D.bl.injEq, D.str.injEq, D.tup.injEq, D.lst.injEq, MO.lst.injEq, List.cons.injEq, and_true, true_and, and_assoc, exists_and_left, decide_eq_true_eq, if_true, Bool.true_eq_false, Bool.false_eq_true, if_false, reduceIte, Bool.not_true, Bool.not_false, eq_self, exists_const, List.filterMap_cons_some, List.filterMap_nil, List.filterMap_cons, and_self, CMul_iff, or_true, true_or, Int.reduceLT, Int.reduceLE, Int.reduceToNat, Int.reduceNeg, Int.reduceSub, Int.reduceAdd, Int.reducePow, Nat.reducePow, Int.reduceMul, ixN_def, Int.cast_ofNat_Int, Int.reduceEq, decide_true, decide_false, dMul_i, dPow_i, strD, reduceCtorEq, ite_true, ite_false, Nat.reduceLT, Nat.reduceLeDiff, Int.reduceAbs, false_and, and_false, or_false, false_or, exists_false]; exact h
  · simp only [sSeq, sNil, sIf, sSet, sAsg, sPar, sPar3, sRet, sRetN, sExpr, sBreak, sCont, sSetIx, wVar, wC, wOp, wChain, wTb, wAnd, wOr, wNotT, wAndV, wOrV, wNotV, wIf, wNil, wCons, wTup, wLst, wLstO, wSl, wNoPart, wPart, wCB, wNeg, wOrT, wTruth, wJoin, wLc, sFor, wipeE, wKw, wYes, wCall, wCallO, wApp, iL, iT, iR1, iR2, iZ, iS, gN, gsNil, gsCons, gTn, endsOf, retR_d, retR_o, sFrz, frz_d, frz_o0, frz_o1, frz_o10, tru_l, tru_t, tru_b, tru_i, tru_n, List.eraseIdx_cons_zero, List.eraseIdx_cons_succ, exists_eq', exists_eq, shf_d, bck_d, toC_nil, toC_d, toC_o, ds_nil, ds_cons, dats_nil, dats_d, dat_d, dat_o0, dat_o1, dat_o2, startE, kg, cutE, cut1_d, cut1_n, cut1_o0, cut1_o1, zipA,
  dAdd_i, dI0_i, dMod_i, dFdiv_i, dPow_i, dLt_i, dLe_i, dGt_i, dGe_i, dLt_s, dLe_s, dGt_s, dGe_s, dEq_i, dEq_s, dEq_b, dEq_is, dEq_si, dEq_ni, dEq_in, dEq_sn, dEq_ns, dNe_i, dNe_s, dNe_b, dNe_is, dNe_si, dNe_ni, dNe_in, dIs_b, dIs_n, dIsNot_b, dIsNot_n, dIx_l, dIx_t, dSl_l, dSl_t, dEq_ti, dEq_li, D.isN, atI_0, atI_1, atI_2, atI_3, atI_4, atI_5, atI_map, map_int_inj, map_str_inj,
  fLen_t, fLen_l, fLen_s, fInt_i, fInt_b, fTup_l, fTup_t, fList_l, fList_t, fMax2_i, fMin2_i, fAbs_i, isi_int_int, isi_int_bool, isi_int_str, isi_int_tup, isi_int_lst, isi_bl_int, isi_bl_bool, isi_bl_str, isi_bl_tup, isi_str_int, isi_str_bool, isi_str_str, isi_str_tup, isi_tup_int, isi_tup_bool, isi_tup_str, isi_tup_tup, isi_lst_int, isi_lst_bool, isi_lst_str, isi_lst_tup, isi_lst_lst, isi_non_int, isi_non_bool, isi_non_str, isi_non_tup, items_t, items_l,
  List.getElem?_cons_zero, List.getElem?_cons_succ, List.set_cons_zero, List.set_cons_succ, List.map_cons, List.map_nil, List.length_cons, List.length_nil, List.cons_append, List.nil_append, List.append_nil, List.replicate_succ, List.replicate_zero, Nat.reduceAdd, Nat.reduceSub, List.head?_cons, List.tail_cons, List.take_succ_cons, List.take_zero, List.take_nil,
  Option.some.injEq, Option.map_some, Option.map_none, exists_eq_left', exists_eq_left, Rv.d.injEq, Rv.o.injEq, D.int.injEq, D.bl.injEq, D.str.injEq, D.tup.injEq, D.lst.injEq, MO.lst.injEq, List.cons.injEq, and_true, true_and, and_assoc, exists_and_left, decide_eq_true_eq, if_true, Bool.true_eq_false, Bool.false_eq_true, if_false, reduceIte, Bool.not_true, Bool.not_false, eq_self, exists_const, List.filterMap_cons_some, List.filterMap_nil, List.filterMap_cons, and_self, CMul_iff, or_true, true_or, Int.reduceLT, Int.reduceLE, Int.reduceToNat, Int.reduceNeg, Int.reduceSub, Int.reduceAdd, Int.reducePow, Nat.reducePow, Int.reduceMul, ixN_def, Int.cast_ofNat_Int, Int.reduceEq, decide_true, decide_false, dMul_i, dPow_i, strD, reduceCtorEq, ite_true, ite_false, Nat.reduceLT, Nat.reduceLeDiff, Int.reduceAbs, false_and, and_false, or_false, false_or, exists_false]; exact h
  · simp only [sSeq, sNil, sIf, sSet, sAsg, sPar, sPar3, sRet, sRetN, sExpr, sBreak, sCont, sSetIx, wVar, wC, wOp, wChain, wTb, wAnd, wOr, wNotT, wAndV, wOrV, wNotV, wIf, wNil, wCons, wTup, wLst, wLstO, wSl, wNoPart, wPart, wCB, wNeg, wOrT, wTruth, wJoin, wLc, sFor, wipeE, wKw, wYes, wCall, wCallO, wApp, iL, iT, iR1, iR2, iZ, iS, gN, gsNil, gsCons, gTn, endsOf, retR_d, retR_o, sFrz, frz_d, frz_o0, frz_o1, frz_o10, tru_l, tru_t, tru_b, tru_i, tru_n, List.eraseIdx_cons_zero, List.eraseIdx_cons_succ, exists_eq', exists_eq, shf_d, bck_d, toC_nil, toC_d, toC_o, ds_nil, ds_cons, dats_nil, dats_d, dat_d, dat_o0, dat_o1, dat_o2, startE, kg, cutE, cut1_d, cut1_n, cut1_o0, cut1_o1, zipA,
  dAdd_i, dI0_i, dMod_i, dFdiv_i, dPow_i, dLt_i, dLe_i, dGt_i, dGe_i, dLt_s, dLe_s, dGt_s, dGe_s, dEq_i, dEq_s, dEq_b, dEq_is, dEq_si, dEq_ni, dEq_in, dEq_sn, dEq_ns, dNe_i, dNe_s, dNe_b, dNe_is, dNe_si, dNe_ni, dNe_in, dIs_b, dIs_n, dIsNot_b, dIsNot_n, dIx_l, dIx_t, dSl_l, dSl_t, dEq_ti, dEq_li, D.isN, atI_0, atI_1, atI_2, atI_3, atI_4, atI_5, atI_map, map_int_inj, map_str_inj,
  fLen_t, fLen_l, fLen_s, fInt_i, fInt_b, fTup_l, fTup_t, fList_l, fList_t, fMax2_i, fMin2_i, fAbs_i, isi_int_int, isi_int_bool, isi_int_str, isi_int_tup, isi_int_lst, isi_bl_int, isi_bl_bool, isi_bl_str, isi_bl_tup, isi_str_int, isi_str_bool, isi_str_str, isi_str_tup, isi_tup_int, isi_tup_bool, isi_tup_str, isi_tup_tup, isi_lst_int, isi_lst_bool, isi_lst_str, isi_lst_tup, isi_lst_lst, isi_non_int, isi_non_bool, isi_non_str, isi_non_tup, items_t, items_l,
  List.getElem?_cons_zero, List.getElem?_cons_succ, List.set_cons_zero, List.set_cons_succ, List.map_cons, List.map_nil, List.length_cons, List.length_nil, List.cons_append, List.nil_append, List.append_nil, List.replicate_succ, List.replicate_zero, Nat.reduceAdd, Nat.reduceSub, List.head?_cons, List.tail_cons, List.take_succ_cons, List.take_zero, List.take_nil,
  Option.some.injEq, Option.map_some, Option.map_none, exists_eq_left', exists_eq_left, Rv.d.injEq, Rv.o.injEq, D.int.injEq, D.bl.injEq, D.str.injEq, D.tup.injEq, D.lst.injEq, MO.lst.injEq, List.cons.injEq, and_true, true_and, and_assoc, exists_and_left, decide_eq_true_eq, if_true, Bool.true_eq_false, Bool.false_eq_true, if_false, reduceIte, Bool.not_true, Bool.not_false, eq_self, exists_const, List.filterMap_cons_some, List.filterMap_nil, List.filterMap_cons, and_self, CMul_iff, or_true, true_or, Int.reduceLT, Int.reduceLE, Int.reduceToNat, Int.reduceNeg, Int.reduceSub, Int.reduceAdd, Int.reducePow, Nat.reducePow, Int.reduceMul, ixN_def, Int.cast_ofNat_Int, Int.reduceEq, decide_true, decide_false, dMul_i, dPow_i, strD, reduceCtorEq, ite_true, ite_false, Nat.reduceLT, Nat.reduceLeDiff, Int.reduceAbs, false_and, and_false, or_false, false_or, exists_false, List.length_map]
    refine ⟨by omega, by omega, for_0 (fun j env M => ∃ e2, env = [some (.d (.tup (ns.map .int))), some (.d (.tup (ns.map .int))), e2] ∧ M = []) ⟨_, rfl, rfl⟩ (fun j d env M hd hI => ?_) (fun env M hI => ?_)⟩
    · obtain ⟨e2, rfl, rfl⟩ := hI
      obtain ⟨hj, rfl⟩ := rngD_get hd
      have hj' : j < ns.length := by omega
      simp only [sSeq, sNil, sIf, sSet, sAsg, sPar, sPar3, sRet, sRetN, sExpr, sBreak, sCont, sSetIx, wVar, wC, wOp, wChain, wTb, wAnd, wOr, wNotT, wAndV, wOrV, wNotV, wIf, wNil, wCons, wTup, wLst, wLstO, wSl, wNoPart, wPart, wCB, wNeg, wOrT, wTruth, wJoin, wLc, sFor, wipeE, wKw, wYes, wCall, wCallO, wApp, iL, iT, iR1, iR2, iZ, iS, gN, gsNil, gsCons, gTn, endsOf, retR_d, retR_o, sFrz, frz_d, frz_o0, frz_o1, frz_o10, tru_l, tru_t, tru_b, tru_i, tru_n, List.eraseIdx_cons_zero, List.eraseIdx_cons_succ, exists_eq', exists_eq, shf_d, bck_d, toC_nil, toC_d, toC_o, ds_nil, ds_cons, dats_nil, dats_d, dat_d, dat_o0, dat_o1, dat_o2, startE, kg, cutE, cut1_d, cut1_n, cut1_o0, cut1_o1, zipA,
  dAdd_i, dI0_i, dMod_i, dFdiv_i, dPow_i, dLt_i, dLe_i, dGt_i, dGe_i, dLt_s, dLe_s, dGt_s, dGe_s, dEq_i, dEq_s, dEq_b, dEq_is, dEq_si, dEq_ni, dEq_in, dEq_sn, dEq_ns, dNe_i, dNe_s, dNe_b, dNe_is, dNe_si, dNe_ni, dNe_in, dIs_b, dIs_n, dIsNot_b, dIsNot_n, dIx_l, dIx_t, dSl_l, dSl_t, dEq_ti, dEq_li, D.isN, atI_0, atI_1, atI_2, atI_3, atI_4, atI_5, atI_map, map_int_inj, map_str_inj,
  fLen_t, fLen_l, fLen_s, fInt_i, fInt_b, fTup_l, fTup_t, fList_l, fList_t, fMax2_i, fMin2_i, fAbs_i, isi_int_int, isi_int_bool, isi_int_str, isi_int_tup, isi_int_lst, isi_bl_int, isi_bl_bool, isi_bl_str, isi_bl_tup, isi_str_int, isi_str_bool, isi_str_str, isi_str_tup, isi_tup_int, isi_tup_bool, isi_tup_str, isi_tup_tup, isi_lst_int, isi_lst_bool, isi_lst_str, isi_lst_tup, isi_lst_lst, isi_non_int, isi_non_bool, isi_non_str, isi_non_tup, items_t, items_l,
  List.getElem?_cons_zero, List.getElem?_cons_succ, List.set_cons_zero, List.set_cons_succ, List.map_cons, List.map_nil, List.length_cons, List.length_nil, List.cons_append, List.nil_append, List.append_nil, List.replicate_succ, List.replicate_zero, Nat.reduceAdd, Nat.reduceSub, List.head?_cons, List.tail_cons, List.take_succ_cons, List.take_zero, List.take_nil,
  Option.some.injEq, Option.map_some, Option.map_none, exists_eq_left', exists_eq_left, Rv.d.injEq, Rv.o.injEq, D.int.injEq, D.bl.injEq, D.str.injEq, D.tup.injEq, D.lst.injEq, MO.lst.injEq, List.cons.injEq, and_true, true_and, and_assoc, exists_and_left, decide_eq_true_eq, if_true, Bool.true_eq_false, Bool.false_eq_true, if_false, reduceIte, Bool.not_true, Bool.not_false, eq_self, exists_const, List.filterMap_cons_some, List.filterMap_nil, List.filterMap_cons, and_self, CMul_iff, or_true, true_or, Int.reduceLT, Int.reduceLE, Int.reduceToNat, Int.reduceNeg, Int.reduceSub, Int.reduceAdd, Int.reducePow, Nat.reducePow, Int.reduceMul, ixN_def, Int.cast_ofNat_Int, Int.reduceEq, decide_true, decide_false, dMul_i, dPow_i, strD, reduceCtorEq, ite_true, ite_false, Nat.reduceLT, Nat.reduceLeDiff, Int.reduceAbs, false_and, and_false, or_false, false_or, exists_false, Int.zero_add, atI_nat (List.getElem?_eq_getElem hj')]
    · obtain ⟨e2, rfl, rfl⟩ := hI
      simp only [sSeq, sNil, sIf, sSet, sAsg, sPar, sPar3, sRet, sRetN, sExpr, sBreak, sCont, sSetIx, wVar, wC, wOp, wChain, wTb, wAnd, wOr, wNotT, wAndV, wOrV, wNotV, wIf, wNil, wCons, wTup, wLst, wLstO, wSl, wNoPart, wPart, wCB, wNeg, wOrT, wTruth, wJoin, wLc, sFor, wipeE, wKw, wYes, wCall, wCallO, wApp, iL, iT, iR1, iR2, iZ, iS, gN, gsNil, gsCons, gTn, endsOf, retR_d, retR_o, sFrz, frz_d, frz_o0, frz_o1, frz_o10, tru_l, tru_t, tru_b, tru_i, tru_n, List.eraseIdx_cons_zero, List.eraseIdx_cons_succ, exists_eq', exists_eq, shf_d, bck_d, toC_nil, toC_d, toC_o, ds_nil, ds_cons, dats_nil, dats_d, dat_d, dat_o0, dat_o1, dat_o2, startE, kg, cutE, cut1_d, cut1_n, cut1_o0, cut1_o1, zipA,
  dAdd_i, dI0_i, dMod_i, dFdiv_i, dPow_i, dLt_i, dLe_i, dGt_i, dGe_i, dLt_s, dLe_s, dGt_s, dGe_s, dEq_i, dEq_s, dEq_b, dEq_is, dEq_si, dEq_ni, dEq_in, dEq_sn, dEq_ns, dNe_i, dNe_s, dNe_b, dNe_is, dNe_si, dNe_ni, dNe_in, dIs_b, dIs_n, dIsNot_b, dIsNot_n, dIx_l, dIx_t, dSl_l, dSl_t, dEq_ti, dEq_li, D.isN, atI_0, atI_1, atI_2, atI_3, atI_4, atI_5, atI_map, map_int_inj, map_str_inj,
  fLen_t, fLen_l, fLen_s, fInt_i, fInt_b, fTup_l, fTup_t, fList_l, fList_t, fMax2_i, fMin2_i, fAbs_i, isi_int_int, isi_int_bool, isi_int_str, isi_int_tup, isi_int_lst, isi_bl_int, isi_bl_bool, isi_bl_str, isi_bl_tup, isi_str_int, isi_str_bool, isi_str_str, isi_str_tup, isi_tup_int, isi_tup_bool, isi_tup_str, isi_tup_tup, isi_lst_int, isi_lst_bool, isi_lst_str, isi_lst_tup, isi_lst_lst, isi_non_int, isi_non_bool, isi_non_str, isi_non_tup, items_t, items_l,
  List.getElem?_cons_zero, List.getElem?_cons_succ, List.set_cons_zero, List.set_cons_succ, List.map_cons, List.map_nil, List.length_cons, List.length_nil, List.cons_append, List.nil_append, List.append_nil, List.replicate_succ, List.replicate_zero, Nat.reduceAdd, Nat.reduceSub, List.head?_cons, List.tail_cons, List.take_succ_cons, List.take_zero, List.take_nil,
  Option.some.injEq, Option.map_some, Option.map_none, exists_eq_left', exists_eq_left, Rv.d.injEq, Rv.o.injEq, D.int.injEq, D.bl.injEq, D.str.injEq, D.tup.injEq, D.lst.injEq, MO.lst.injEq, List.cons.injEq, and_true, true_and, and_assoc, exists_and_left, decide_eq_true_eq, if_true, Bool.true_eq_false, Bool.false_eq_true, if_false, reduceIte, Bool.not_true, Bool.not_false, eq_self, exists_const, List.filterMap_cons_some, List.filterMap_nil, List.filterMap_cons, and_self, CMul_iff, or_true, true_or, Int.reduceLT, Int.reduceLE, Int.reduceToNat, Int.reduceNeg, Int.reduceSub, Int.reduceAdd, Int.reducePow, Nat.reducePow, Int.reduceMul, ixN_def, Int.cast_ofNat_Int, Int.reduceEq, decide_true, decide_false, dMul_i, dPow_i, strD, reduceCtorEq, ite_true, ite_false, Nat.reduceLT, Nat.reduceLeDiff, Int.reduceAbs, false_and, and_false, or_false, false_or, exists_false]; exact h
end Lk00
set_option Elab.async false
set_option linter.all false
set_option maxRecDepth 100000
set_option maxHeartbeats 4000000
namespace Lk00
open PySem PySem.Spec PyProof.Rows L2 Dw
def c__law_thing : Ct := fun rs M R => ∃ (n : Nat) (tr : MO), rs = [.o 0] ∧ M = [tr] ∧ TrayOk n tr ∧ n + 2 ≤ 1000000 ∧ ∀ r tr', InR r → TrayOk (n + 2) tr' → R (.d (.int r)) [tr']
theorem ln__law_thing : ∀ rs M R, c__law_thing rs M R → rs.length = 1 ∧ M.length = 1 := by
  rintro rs M R ⟨n, tr, rfl, rfl, _⟩; exact ⟨rfl, rfl⟩
set_option maxHeartbeats 8000000 in
theorem ok__law_thing {P : Program} {w : World} {K : PySem.W.Frag} {mg : Str → Option Value} {base : Heap} (T : Tx K mg) : FnOk P w K mg base CX0 2 T.a__law_thing T.fd__law_thing ["tray"] (spD K c__law_thing) := by
  refine fnD (n0 := 1) T.F__law_thing sc__law_thing ln__law_thing fun cdv A outer s H E hr => ⟨_, (qss_cons (qs_set (i := 1) sc__law_thing.nd rfl (.inl rfl) (qe_callO 0 (ok__law_pick T) (hr.mono (by decide)) (by rfl) T.g__law_pick T.F__law_pick.kp (b__law_pick T) (qa_cons (qv 0) (qa_cons qe_int qa_nil)))) (qss_cons (qs_if (qt_eq (u64 hr) (qv 1) qe_int) (qss_one (qs_ret (qe_ix (qe_tup (qa_cons (qe_neg qe_int) (qa_cons qe_int (qa_cons qe_int (qa_cons (qe_neg qe_int) (qa_cons qe_int (qa_cons qe_int qa_nil))))))) (qe_callO 0 (ok__law_pick T) (hr.mono (by decide)) (by rfl) T.g__law_pick T.F__law_pick.kp (b__law_pick T) (qa_cons (qv 0) (qa_cons qe_int qa_nil)))))) qss_nil) (qss_one (qs_ret (qe_if (qt_eq (u64 hr) (qv 1) qe_int) (qe_sub (qe_callO 0 (ok__law_pick T) (hr.mono (by decide)) (by rfl) T.g__law_pick T.F__law_pick.kp (b__law_pick T) (qa_cons (qv 0) (qa_cons qe_int qa_nil))) qe_int) (qe_sub (qe_callO 0 (ok__law_pick T) (hr.mono (by decide)) (by rfl) T.g__law_pick T.F__law_pick.kp (b__law_pick T) (qa_cons (qv 0) (qa_cons qe_int qa_nil))) qe_int)))))), fun rs M R h => ?_⟩
  obtain ⟨n, tr, rfl, rfl, ht, hn, h⟩ := h
  simp only [sSeq, sNil, sIf, sSet, sAsg, sPar, sPar3, sRet, sRetN, sExpr, sBreak, sCont, sSetIx, wVar, wC, wOp, wChain, wTb, wAnd, wOr, wNotT, wAndV, wOrV, wNotV, wIf, wNil, wCons, wTup, wLst, wLstO, wSl, wNoPart, wPart, wCB, wNeg, wOrT, wTruth, wJoin, wLc, sFor, wipeE, wKw, wYes, wCall, wCallO, wApp, iL, iT, iR1, iR2, iZ, iS, gN, gsNil, gsCons, gTn, endsOf, retR_d, retR_o, sFrz, frz_d, frz_o0, frz_o1, frz_o10, tru_l, tru_t, tru_b, tru_i, tru_n, List.eraseIdx_cons_zero, List.eraseIdx_cons_succ, exists_eq', exists_eq, shf_d, bck_d, toC_nil, toC_d, toC_o, ds_nil, ds_cons, dats_nil, dats_d, dat_d, dat_o0, dat_o1, dat_o2, startE, kg, cutE, cut1_d, cut1_n, cut1_o0, cut1_o1, zipA,
  dAdd_i, dI0_i, dMod_i, dFdiv_i, dPow_i, dLt_i, dLe_i, dGt_i, dGe_i, dLt_s, dLe_s, dGt_s, dGe_s, dEq_i, dEq_s, dEq_b, dEq_is, dEq_si, dEq_ni, dEq_in, dEq_sn, dEq_ns, dNe_i, dNe_s, dNe_b, dNe_is, dNe_si, dNe_ni, dNe_in, dIs_b, dIs_n, dIsNot_b, dIsNot_n, dIx_l, dIx_t, dSl_l, dSl_t, dEq_ti, dEq_li, D.isN, atI_0, atI_1, atI_2, atI_3, atI_4, atI_5, atI_map, map_int_inj, map_str_inj,
  fLen_t, fLen_l, fLen_s, fInt_i, fInt_b, fTup_l, fTup_t, fList_l, fList_t, fMax2_i, fMin2_i, fAbs_i, isi_int_int, isi_int_bool, isi_int_str, isi_int_tup, isi_int_lst, isi_bl_int, isi_bl_bool, isi_bl_str, isi_bl_tup, isi_str_int, isi_str_bool, isi_str_str, isi_str_tup, isi_tup_int, isi_tup_bool, isi_tup_str, isi_tup_tup, isi_lst_int, isi_lst_bool, isi_lst_str, isi_lst_tup, isi_lst_lst, isi_non_int, isi_non_bool, isi_non_str, isi_non_tup, items_t, items_l,
  List.getElem?_cons_zero, List.getElem?_cons_succ, List.set_cons_zero, List.set_cons_succ, List.map_cons, List.map_nil, List.length_cons, List.length_nil, List.cons_append, List.nil_append, List.append_nil, List.replicate_succ, List.replicate_zero, Nat.reduceAdd, Nat.reduceSub, List.head?_cons, List.tail_cons, List.take_succ_cons, List.take_zero, List.take_nil,
  Option.some.injEq, Option.map_some, Option.map_none, exists_eq_left', exists_eq_left, Rv.d.injEq, Rv.o.injEq, D.int.injEq, D.bl.injEq, D.str.injEq, D.tup.injEq, D.lst.injEq, MO.lst.injEq, List.cons.injEq, and_true, true_and, and_assoc, exists_and_left, decide_eq_true_eq, if_true, Bool.true_eq_false, Bool.false_eq_true, if_false, reduceIte, Bool.not_true, Bool.not_false, eq_self, exists_const, List.filterMap_cons_some, List.filterMap_nil, List.filterMap_cons, and_self, CMul_iff, or_true, true_or, Int.reduceLT, Int.reduceLE, Int.reduceToNat, Int.reduceNeg, Int.reduceSub, Int.reduceAdd, Int.reducePow, Nat.reducePow, Int.reduceMul, ixN_def, Int.cast_ofNat_Int, Int.reduceEq, decide_true, decide_false, dMul_i, dPow_i, strD, reduceCtorEq, ite_true, ite_false, Nat.reduceLT, Nat.reduceLeDiff, Int.reduceAbs, false_and, and_false, or_false, false_or, exists_false]
  refine ⟨n, tr, 4, rfl, rfl, ht, by omega, by omega, fun r t1 r0 r1 ht1 => ?_⟩
  simp only [sSeq, sNil, sIf, sSet, sAsg, sPar, sPar3, sRet, sRetN, sExpr, sBreak, sCont, sSetIx, wVar, wC, wOp, wChain, wTb, wAnd, wOr, wNotT, wAndV, wOrV, wNotV, wIf, wNil, wCons, wTup, wLst, wLstO, wSl, wNoPart, wPart, wCB, wNeg, wOrT, wTruth, wJoin, wLc, sFor, wipeE, wKw, wYes, wCall, wCallO, wApp, iL, iT, iR1, iR2, iZ, iS, gN, gsNil, gsCons, gTn, endsOf, retR_d, retR_o, sFrz, frz_d, frz_o0, frz_o1, frz_o10, tru_l, tru_t, tru_b, tru_i, tru_n, List.eraseIdx_cons_zero, List.eraseIdx_cons_succ, exists_eq', exists_eq, shf_d, bck_d, toC_nil, toC_d, toC_o, ds_nil, ds_cons, dats_nil, dats_d, dat_d, dat_o0, dat_o1, dat_o2, startE, kg, cutE, cut1_d, cut1_n, cut1_o0, cut1_o1, zipA,
  dAdd_i, dI0_i, dMod_i, dFdiv_i, dPow_i, dLt_i, dLe_i, dGt_i, dGe_i, dLt_s, dLe_s, dGt_s, dGe_s, dEq_i, dEq_s, dEq_b, dEq_is, dEq_si, dEq_ni, dEq_in, dEq_sn, dEq_ns, dNe_i, dNe_s, dNe_b, dNe_is, dNe_si, dNe_ni, dNe_in, dIs_b, dIs_n, dIsNot_b, dIsNot_n, dIx_l, dIx_t, dSl_l, dSl_t, dEq_ti, dEq_li, D.isN, atI_0, atI_1, atI_2, atI_3, atI_4, atI_5, atI_map, map_int_inj, map_str_inj,
  fLen_t, fLen_l, fLen_s, fInt_i, fInt_b, fTup_l, fTup_t, fList_l, fList_t, fMax2_i, fMin2_i, fAbs_i, isi_int_int, isi_int_bool, isi_int_str, isi_int_tup, isi_int_lst, isi_bl_int, isi_bl_bool, isi_bl_str, isi_bl_tup, isi_str_int, isi_str_bool, isi_str_str, isi_str_tup, isi_tup_int, isi_tup_bool, isi_tup_str, isi_tup_tup, isi_lst_int, isi_lst_bool, isi_lst_str, isi_lst_tup, isi_lst_lst, isi_non_int, isi_non_bool, isi_non_str, isi_non_tup, items_t, items_l,
  List.getElem?_cons_zero, List.getElem?_cons_succ, List.set_cons_zero, List.set_cons_succ, List.map_cons, List.map_nil, List.length_cons, List.length_nil, List.cons_append, List.nil_append, List.append_nil, List.replicate_succ, List.replicate_zero, Nat.reduceAdd, Nat.reduceSub, List.head?_cons, List.tail_cons, List.take_succ_cons, List.take_zero, List.take_nil,
  Option.some.injEq, Option.map_some, Option.map_none, exists_eq_left', exists_eq_left, Rv.d.injEq, Rv.o.injEq, D.int.injEq, D.bl.injEq, D.str.injEq, D.tup.injEq, D.lst.injEq, MO.lst.injEq, List.cons.injEq, and_true, true_and, and_assoc, exists_and_left, decide_eq_true_eq, if_true, Bool.true_eq_false, Bool.false_eq_true, if_false, reduceIte, Bool.not_true, Bool.not_false, eq_self, exists_const, List.filterMap_cons_some, List.filterMap_nil, List.filterMap_cons, and_self, CMul_iff, or_true, true_or, Int.reduceLT, Int.reduceLE, Int.reduceToNat, Int.reduceNeg, Int.reduceSub, Int.reduceAdd, Int.reducePow, Nat.reducePow, Int.reduceMul, ixN_def, Int.cast_ofNat_Int, Int.reduceEq, decide_true, decide_false, dMul_i, dPow_i, strD, reduceCtorEq, ite_true, ite_false, Nat.reduceLT, Nat.reduceLeDiff, Int.reduceAbs, false_and, and_false, or_false, false_or, exists_false]
  by_cases e0 : r = 0
  · rw [if_pos e0]
    refine ⟨sz (by decide), n + 1, t1, 6, rfl, rfl, ht1, by omega, by omega, fun r t2 q0 q1 ht2 => ?_⟩
    simp only [sSeq, sNil, sIf, sSet, sAsg, sPar, sPar3, sRet, sRetN, sExpr, sBreak, sCont, sSetIx, wVar, wC, wOp, wChain, wTb, wAnd, wOr, wNotT, wAndV, wOrV, wNotV, wIf, wNil, wCons, wTup, wLst, wLstO, wSl, wNoPart, wPart, wCB, wNeg, wOrT, wTruth, wJoin, wLc, sFor, wipeE, wKw, wYes, wCall, wCallO, wApp, iL, iT, iR1, iR2, iZ, iS, gN, gsNil, gsCons, gTn, endsOf, retR_d, retR_o, sFrz, frz_d, frz_o0, frz_o1, frz_o10, tru_l, tru_t, tru_b, tru_i, tru_n, List.eraseIdx_cons_zero, List.eraseIdx_cons_succ, exists_eq', exists_eq, shf_d, bck_d, toC_nil, toC_d, toC_o, ds_nil, ds_cons, dats_nil, dats_d, dat_d, dat_o0, dat_o1, dat_o2, startE, kg, cutE, cut1_d, cut1_n, cut1_o0, cut1_o1, zipA,
  dAdd_i, dI0_i, dMod_i, dFdiv_i, dPow_i, dLt_i, dLe_i, dGt_i, dGe_i, dLt_s, dLe_s, dGt_s, dGe_s, dEq_i, dEq_s, dEq_b, dEq_is, dEq_si, dEq_ni, dEq_in, dEq_sn, dEq_ns, dNe_i, dNe_s, dNe_b, dNe_is, dNe_si, dNe_ni, dNe_in, dIs_b, dIs_n, dIsNot_b, dIsNot_n, dIx_l, dIx_t, dSl_l, dSl_t, dEq_ti, dEq_li, D.isN, atI_0, atI_1, atI_2, atI_3, atI_4, atI_5, atI_map, map_int_inj, map_str_inj,
  fLen_t, fLen_l, fLen_s, fInt_i, fInt_b, fTup_l, fTup_t, fList_l, fList_t, fMax2_i, fMin2_i, fAbs_i, isi_int_int, isi_int_bool, isi_int_str, isi_int_tup, isi_int_lst, isi_bl_int, isi_bl_bool, isi_bl_str, isi_bl_tup, isi_str_int, isi_str_bool, isi_str_str, isi_str_tup, isi_tup_int, isi_tup_bool, isi_tup_str, isi_tup_tup, isi_lst_int, isi_lst_bool, isi_lst_str, isi_lst_tup, isi_lst_lst, isi_non_int, isi_non_bool, isi_non_str, isi_non_tup, items_t, items_l,
  List.getElem?_cons_zero, List.getElem?_cons_succ, List.set_cons_zero, List.set_cons_succ, List.map_cons, List.map_nil, List.length_cons, List.length_nil, List.cons_append, List.nil_append, List.append_nil, List.replicate_succ, List.replicate_zero, Nat.reduceAdd, Nat.reduceSub, List.head?_cons, List.tail_cons, List.take_succ_cons, List.take_zero, List.take_nil,
  Option.some.injEq, Option.map_some, Option.map_none, exists_eq_left', exists_eq_left, Rv.d.injEq, Rv.o.injEq, D.int.injEq, D.bl.injEq, D.str.injEq, D.tup.injEq, D.lst.injEq, MO.lst.injEq, List.cons.injEq, and_true, true_and, and_assoc, exists_and_left, decide_eq_true_eq, if_true, Bool.true_eq_false, Bool.false_eq_true, if_false, reduceIte, Bool.not_true, Bool.not_false, eq_self, exists_const, List.filterMap_cons_some, List.filterMap_nil, List.filterMap_cons, and_self, CMul_iff, or_true, true_or, Int.reduceLT, Int.reduceLE, Int.reduceToNat, Int.reduceNeg, Int.reduceSub, Int.reduceAdd, Int.reducePow, Nat.reducePow, Int.reduceMul, ixN_def, Int.cast_ofNat_Int, Int.reduceEq, decide_true, decide_false, dMul_i, dPow_i, strD, reduceCtorEq, ite_true, ite_false, Nat.reduceLT, Nat.reduceLeDiff, Int.reduceAbs, false_and, and_false, or_false, false_or, exists_false]
    obtain ⟨v, hv⟩ := atI_in (xs := [(-1000 : Int), 1000, 0, -1, 999, 1]) q0 (by simpa using q1)
    have hv' := hv
    refine ⟨.int v, ?_, h v t2 ?_ ht2⟩
    · have := congrArg (Option.map D.int) hv
      rw [← atI_map] at this
      exact this
    · have := atI_mem hv
      unfold InR
      simp at this
      omega
  · rw [if_neg e0]
    by_cases e1 : r = 1
    · rw [if_pos e1]
      refine ⟨n + 1, t1, 2001, rfl, rfl, ht1, by omega, by omega, fun r t2 q0 q1 ht2 => ?_⟩
      simp only [sSeq, sNil, sIf, sSet, sAsg, sPar, sPar3, sRet, sRetN, sExpr, sBreak, sCont, sSetIx, wVar, wC, wOp, wChain, wTb, wAnd, wOr, wNotT, wAndV, wOrV, wNotV, wIf, wNil, wCons, wTup, wLst, wLstO, wSl, wNoPart, wPart, wCB, wNeg, wOrT, wTruth, wJoin, wLc, sFor, wipeE, wKw, wYes, wCall, wCallO, wApp, iL, iT, iR1, iR2, iZ, iS, gN, gsNil, gsCons, gTn, endsOf, retR_d, retR_o, sFrz, frz_d, frz_o0, frz_o1, frz_o10, tru_l, tru_t, tru_b, tru_i, tru_n, List.eraseIdx_cons_zero, List.eraseIdx_cons_succ, exists_eq', exists_eq, shf_d, bck_d, toC_nil, toC_d, toC_o, ds_nil, ds_cons, dats_nil, dats_d, dat_d, dat_o0, dat_o1, dat_o2, startE, kg, cutE, cut1_d, cut1_n, cut1_o0, cut1_o1, zipA,
  dAdd_i, dI0_i, dMod_i, dFdiv_i, dPow_i, dLt_i, dLe_i, dGt_i, dGe_i, dLt_s, dLe_s, dGt_s, dGe_s, dEq_i, dEq_s, dEq_b, dEq_is, dEq_si, dEq_ni, dEq_in, dEq_sn, dEq_ns, dNe_i, dNe_s, dNe_b, dNe_is, dNe_si, dNe_ni, dNe_in, dIs_b, dIs_n, dIsNot_b, dIsNot_n, dIx_l, dIx_t, dSl_l, dSl_t, dEq_ti, dEq_li, D.isN, atI_0, atI_1, atI_2, atI_3, atI_4, atI_5, atI_map, map_int_inj, map_str_inj,
  fLen_t, fLen_l, fLen_s, fInt_i, fInt_b, fTup_l, fTup_t, fList_l, fList_t, fMax2_i, fMin2_i, fAbs_i, isi_int_int, isi_int_bool, isi_int_str, isi_int_tup, isi_int_lst, isi_bl_int, isi_bl_bool, isi_bl_str, isi_bl_tup, isi_str_int, isi_str_bool, isi_str_str, isi_str_tup, isi_tup_int, isi_tup_bool, isi_tup_str, isi_tup_tup, isi_lst_int, isi_lst_bool, isi_lst_str, isi_lst_tup, isi_lst_lst, isi_non_int, isi_non_bool, isi_non_str, isi_non_tup, items_t, items_l,
  List.getElem?_cons_zero, List.getElem?_cons_succ, List.set_cons_zero, List.set_cons_succ, List.map_cons, List.map_nil, List.length_cons, List.length_nil, List.cons_append, List.nil_append, List.append_nil, List.replicate_succ, List.replicate_zero, Nat.reduceAdd, Nat.reduceSub, List.head?_cons, List.tail_cons, List.take_succ_cons, List.take_zero, List.take_nil,
  Option.some.injEq, Option.map_some, Option.map_none, exists_eq_left', exists_eq_left, Rv.d.injEq, Rv.o.injEq, D.int.injEq, D.bl.injEq, D.str.injEq, D.tup.injEq, D.lst.injEq, MO.lst.injEq, List.cons.injEq, and_true, true_and, and_assoc, exists_and_left, decide_eq_true_eq, if_true, Bool.true_eq_false, Bool.false_eq_true, if_false, reduceIte, Bool.not_true, Bool.not_false, eq_self, exists_const, List.filterMap_cons_some, List.filterMap_nil, List.filterMap_cons, and_self, CMul_iff, or_true, true_or, Int.reduceLT, Int.reduceLE, Int.reduceToNat, Int.reduceNeg, Int.reduceSub, Int.reduceAdd, Int.reducePow, Nat.reducePow, Int.reduceMul, ixN_def, Int.cast_ofNat_Int, Int.reduceEq, decide_true, decide_false, dMul_i, dPow_i, strD, reduceCtorEq, ite_true, ite_false, Nat.reduceLT, Nat.reduceLeDiff, Int.reduceAbs, false_and, and_false, or_false, false_or, exists_false]
      exact h _ t2 ⟨by omega, by omega⟩ ht2
    · rw [if_neg e1]
      refine ⟨n + 1, t1, 5, rfl, rfl, ht1, by omega, by omega, fun r t2 q0 q1 ht2 => ?_⟩
      simp only [sSeq, sNil, sIf, sSet, sAsg, sPar, sPar3, sRet, sRetN, sExpr, sBreak, sCont, sSetIx, wVar, wC, wOp, wChain, wTb, wAnd, wOr, wNotT, wAndV, wOrV, wNotV, wIf, wNil, wCons, wTup, wLst, wLstO, wSl, wNoPart, wPart, wCB, wNeg, wOrT, wTruth, wJoin, wLc, sFor, wipeE, wKw, wYes, wCall, wCallO, wApp, iL, iT, iR1, iR2, iZ, iS, gN, gsNil, gsCons, gTn, endsOf, retR_d, retR_o, sFrz, frz_d, frz_o0, frz_o1, frz_o10, tru_l, tru_t, tru_b, tru_i, tru_n, List.eraseIdx_cons_zero, List.eraseIdx_cons_succ, exists_eq', exists_eq, shf_d, bck_d, toC_nil, toC_d, toC_o, ds_nil, ds_cons, dats_nil, dats_d, dat_d, dat_o0, dat_o1, dat_o2, startE, kg, cutE, cut1_d, cut1_n, cut1_o0, cut1_o1, zipA,
  dAdd_i, dI0_i, dMod_i, dFdiv_i, dPow_i, dLt_i, dLe_i, dGt_i, dGe_i, dLt_s, dLe_s, dGt_s, dGe_s, dEq_i, dEq_s, dEq_b, dEq_is, dEq_si, dEq_ni, dEq_in, dEq_sn, dEq_ns, dNe_i, dNe_s, dNe_b, dNe_is, dNe_si, dNe_ni, dNe_in, dIs_b, dIs_n, dIsNot_b, dIsNot_n, dIx_l, dIx_t, dSl_l, dSl_t, dEq_ti, dEq_li, D.isN, atI_0, atI_1, atI_2, atI_3, atI_4, atI_5, atI_map, map_int_inj, map_str_inj,
  fLen_t, fLen_l, fLen_s, fInt_i, fInt_b, fTup_l, fTup_t, fList_l, fList_t, fMax2_i, fMin2_i, fAbs_i, isi_int_int, isi_int_bool, isi_int_str, isi_int_tup, isi_int_lst, isi_bl_int, isi_bl_bool, isi_bl_str, isi_bl_tup, isi_str_int, isi_str_bool, isi_str_str, isi_str_tup, isi_tup_int, isi_tup_bool, isi_tup_str, isi_tup_tup, isi_lst_int, isi_lst_bool, isi_lst_str, isi_lst_tup, isi_lst_lst, isi_non_int, isi_non_bool, isi_non_str, isi_non_tup, items_t, items_l,
  List.getElem?_cons_zero, List.getElem?_cons_succ, List.set_cons_zero, List.set_cons_succ, List.map_cons, List.map_nil, List.length_cons, List.length_nil, List.cons_append, List.nil_append, List.append_nil, List.replicate_succ, List.replicate_zero, Nat.reduceAdd, Nat.reduceSub, List.head?_cons, List.tail_cons, List.take_succ_cons, List.take_zero, List.take_nil,
  Option.some.injEq, Option.map_some, Option.map_none, exists_eq_left', exists_eq_left, Rv.d.injEq, Rv.o.injEq, D.int.injEq, D.bl.injEq, D.str.injEq, D.tup.injEq, D.lst.injEq, MO.lst.injEq, List.cons.injEq, and_true, true_and, and_assoc, exists_and_left, decide_eq_true_eq, if_true, Bool.true_eq_false, Bool.false_eq_true, if_false, reduceIte, Bool.not_true, Bool.not_false, eq_self, exists_const, List.filterMap_cons_some, List.filterMap_nil, List.filterMap_cons, and_self, CMul_iff, or_true, true_or, Int.reduceLT, Int.reduceLE, Int.reduceToNat, Int.reduceNeg, Int.reduceSub, Int.reduceAdd, Int.reducePow, Nat.reducePow, Int.reduceMul, ixN_def, Int.cast_ofNat_Int, Int.reduceEq, decide_true, decide_false, dMul_i, dPow_i, strD, reduceCtorEq, ite_true, ite_false, Nat.reduceLT, Nat.reduceLeDiff, Int.reduceAbs, false_and, and_false, or_false, false_or, exists_false]
      exact h _ t2 ⟨by omega, by omega⟩ ht2
end Lk00
set_option Elab.async false
set_option linter.all false
set_option maxRecDepth 100000
set_option maxHeartbeats 4000000
namespace Lk00
open PySem PySem.Spec PyProof.Rows L2 Dw
def c__law_put : Ct := fun rs M R => ∃ (ns : List Int) (x : Int), rs = [.d (.lst (ns.map .int)), .d (.int x)] ∧ M = [] ∧ ns.length ≤ 1000 ∧ R (.d (.lst ((lput ns x).map .int))) []
theorem ln__law_put : ∀ rs M R, c__law_put rs M R → rs.length = 2 ∧ M.length = 0 := by
  rintro rs M R ⟨n, tr, rfl, rfl, _⟩; exact ⟨rfl, rfl⟩
set_option maxHeartbeats 8000000 in
theorem ok__law_put {P : Program} {w : World} {K : PySem.W.Frag} {mg : Str → Option Value} {base : Heap} (T : Tx K mg) : FnOk P w K mg base CX0 1 T.a__law_put T.fd__law_put ["row", "one"] (spD K c__law_put) := by
  refine fnD (n0 := 0) T.F__law_put sc__law_put ln__law_put fun cdv A outer s H E hr => ⟨_, (qss_cons (qs_setLc (i := 2) rfl sc__law_put.nd rfl rfl (sw_true rfl rfl rfl (by decide +kernel)) (qi_list (qv 0)) (blkOk_by (own := [("thing", 4)]) (N := ["row", "one", "ahead", "behind", "thing"]) (sc := defScope s__law_put) (by decide +kernel)) (by decide) (fun _ _ _ _ _ => (qg_name (i := 4) sc__law_put.nd rfl (by first | exact .inl rfl | exact .inr rfl))) (fun _ _ _ _ _ => (qts_one (qt_le (qv 4) (qv 1)))) (fun _ _ _ _ _ => (qv 4))) (qss_cons (qs_setLc (i := 3) rfl sc__law_put.nd rfl rfl (sw_true rfl rfl rfl (by decide +kernel)) (qi_list (qv 0)) (blkOk_by (own := [("thing", 4)]) (N := ["row", "one", "ahead", "behind", "thing"]) (sc := defScope s__law_put) (by decide +kernel)) (by decide) (fun _ _ _ _ _ => (qg_name (i := 4) sc__law_put.nd rfl (by first | exact .inl rfl | exact .inr rfl))) (fun _ _ _ _ _ => (qts_one (qt_gt (qv 4) (qv 1)))) (fun _ _ _ _ _ => (qv 4))) (qss_one (qs_ret (qe_add (qe_add (qv 2) (qe_lst (qa_cons (qv 1) qa_nil))) (qv 3)))))), fun rs M R h => ?_⟩
  obtain ⟨ns, x, rfl, rfl, hl, h⟩ := h
  simp only [sSeq, sNil, sIf, sSet, sAsg, sPar, sPar3, sRet, sRetN, sExpr, sBreak, sCont, sSetIx, wVar, wC, wOp, wChain, wTb, wAnd, wOr, wNotT, wAndV, wOrV, wNotV, wIf, wNil, wCons, wTup, wLst, wLstO, wSl, wNoPart, wPart, wCB, wNeg, wOrT, wTruth, wJoin, wLc, sFor, wipeE, wKw, wYes, wCall, wCallO, wApp, iL, iT, iR1, iR2, iZ, iS, gN, gsNil, gsCons, gTn, endsOf, retR_d, retR_o, sFrz, frz_d, frz_o0, frz_o1, frz_o10, tru_l, tru_t, tru_b, tru_i, tru_n, List.eraseIdx_cons_zero, List.eraseIdx_cons_succ, exists_eq', exists_eq, shf_d, bck_d, toC_nil, toC_d, toC_o, ds_nil, ds_cons, dats_nil, dats_d, dat_d, dat_o0, dat_o1, dat_o2, startE, kg, cutE, cut1_d, cut1_n, cut1_o0, cut1_o1, zipA,
  dAdd_i, dI0_i, dMod_i, dFdiv_i, dPow_i, dLt_i, dLe_i, dGt_i, dGe_i, dLt_s, dLe_s, dGt_s, dGe_s, dEq_i, dEq_s, dEq_b, dEq_is, dEq_si, dEq_ni, dEq_in, dEq_sn, dEq_ns, dNe_i, dNe_s, dNe_b, dNe_is, dNe_si, dNe_ni, dNe_in, dIs_b, dIs_n, dIsNot_b, dIsNot_n, dIx_l, dIx_t, dSl_l, dSl_t, dEq_ti, dEq_li, D.isN, atI_0, atI_1, atI_2, atI_3, atI_4, atI_5, atI_map, map_int_inj, map_str_inj,
  fLen_t, fLen_l, fLen_s, fInt_i, fInt_b, fTup_l, fTup_t, fList_l, fList_t, fMax2_i, fMin2_i, fAbs_i, isi_int_int, isi_int_bool, isi_int_str, isi_int_tup, isi_int_lst, isi_bl_int, isi_bl_bool, isi_bl_str, isi_bl_tup, isi_str_int, isi_str_bool, isi_str_str, isi_str_tup, isi_tup_int, isi_tup_bool, isi_tup_str, isi_tup_tup, isi_lst_int, isi_lst_bool, isi_lst_str, isi_lst_tup, isi_lst_lst, isi_non_int, isi_non_bool, isi_non_str, isi_non_tup, items_t, items_l,
  List.getElem?_cons_zero, List.getElem?_cons_succ, List.set_cons_zero, List.set_cons_succ, List.map_cons, List.map_nil, List.length_cons, List.length_nil, List.cons_append, List.nil_append, List.append_nil, List.replicate_succ, List.replicate_zero, Nat.reduceAdd, Nat.reduceSub, List.head?_cons, List.tail_cons, List.take_succ_cons, List.take_zero, List.take_nil,
  Option.some.injEq, Option.map_some, Option.map_none, exists_eq_left', exists_eq_left, Rv.d.injEq, Rv.o.injEq, D.int.injEq, D.bl.injEq, D.str.injEq, D.tup.injEq, D.lst.injEq, MO.lst.injEq, List.cons.injEq, and_true, true_and, and_assoc, exists_and_left, decide_eq_true_eq, if_true, Bool.true_eq_false, Bool.false_eq_true, if_false, reduceIte, Bool.not_true, Bool.not_false, eq_self, exists_const, List.filterMap_cons_some, List.filterMap_nil, List.filterMap_cons, and_self, CMul_iff, or_true, true_or, Int.reduceLT, Int.reduceLE, Int.reduceToNat, Int.reduceNeg, Int.reduceSub, Int.reduceAdd, Int.reducePow, Nat.reducePow, Int.reduceMul, ixN_def, Int.cast_ofNat_Int, Int.reduceEq, decide_true, decide_false, dMul_i, dPow_i, strD, reduceCtorEq, ite_true, ite_false, Nat.reduceLT, Nat.reduceLeDiff, Int.reduceAbs, false_and, and_false, or_false, false_or, exists_false, List.length_map]
  refine ⟨sz (by omega), lc_map D.int (fun y => decide (y ≤ x)) D.int ns (fun y hy G acc h1 h2 => ?_) ⟨sz (by omega), lc_map D.int (fun y => decide (x < y)) D.int ns (fun y hy G acc h1 h2 => ?_) ⟨sz (by decide), ?_⟩⟩⟩
  · simp only [sSeq, sNil, sIf, sSet, sAsg, sPar, sPar3, sRet, sRetN, sExpr, sBreak, sCont, sSetIx, wVar, wC, wOp, wChain, wTb, wAnd, wOr, wNotT, wAndV, wOrV, wNotV, wIf, wNil, wCons, wTup, wLst, wLstO, wSl, wNoPart, wPart, wCB, wNeg, wOrT, wTruth, wJoin, wLc, sFor, wipeE, wKw, wYes, wCall, wCallO, wApp, iL, iT, iR1, iR2, iZ, iS, gN, gsNil, gsCons, gTn, endsOf, retR_d, retR_o, sFrz, frz_d, frz_o0, frz_o1, frz_o10, tru_l, tru_t, tru_b, tru_i, tru_n, List.eraseIdx_cons_zero, List.eraseIdx_cons_succ, exists_eq', exists_eq, shf_d, bck_d, toC_nil, toC_d, toC_o, ds_nil, ds_cons, dats_nil, dats_d, dat_d, dat_o0, dat_o1, dat_o2, startE, kg, cutE, cut1_d, cut1_n, cut1_o0, cut1_o1, zipA,
  dAdd_i, dI0_i, dMod_i, dFdiv_i, dPow_i, dLt_i, dLe_i, dGt_i, dGe_i, dLt_s, dLe_s, dGt_s, dGe_s, dEq_i, dEq_s, dEq_b, dEq_is, dEq_si, dEq_ni, dEq_in, dEq_sn, dEq_ns, dNe_i, dNe_s, dNe_b, dNe_is, dNe_si, dNe_ni, dNe_in, dIs_b, dIs_n, dIsNot_b, dIsNot_n, dIx_l, dIx_t, dSl_l, dSl_t, dEq_ti, dEq_li, D.isN, atI_0, atI_1, atI_2, atI_3, atI_4, atI_5, atI_map, map_int_inj, map_str_inj,
  fLen_t, fLen_l, fLen_s, fInt_i, fInt_b, fTup_l, fTup_t, fList_l, fList_t, fMax2_i, fMin2_i, fAbs_i, isi_int_int, isi_int_bool, isi_int_str, isi_int_tup, isi_int_lst, isi_bl_int, isi_bl_bool, isi_bl_str, isi_bl_tup, isi_str_int, isi_str_bool, isi_str_str, isi_str_tup, isi_tup_int, isi_tup_bool, isi_tup_str, isi_tup_tup, isi_lst_int, isi_lst_bool, isi_lst_str, isi_lst_tup, isi_lst_lst, isi_non_int, isi_non_bool, isi_non_str, isi_non_tup, items_t, items_l,
  List.getElem?_cons_zero, List.getElem?_cons_succ, List.set_cons_zero, List.set_cons_succ, List.map_cons, List.map_nil, List.length_cons, List.length_nil, List.cons_append, List.nil_append, List.append_nil, List.replicate_succ, List.replicate_zero, Nat.reduceAdd, Nat.reduceSub, List.head?_cons, List.tail_cons, List.take_succ_cons, List.take_zero, List.take_nil,
  Option.some.injEq, Option.map_some, Option.map_none, exists_eq_left', exists_eq_left, Rv.d.injEq, Rv.o.injEq, D.int.injEq, D.bl.injEq, D.str.injEq, D.tup.injEq, D.lst.injEq, MO.lst.injEq, List.cons.injEq, and_true, true_and, and_assoc, exists_and_left, decide_eq_true_eq, if_true, Bool.true_eq_false, Bool.false_eq_true, if_false, reduceIte, Bool.not_true, Bool.not_false, eq_self, exists_const, List.filterMap_cons_some, List.filterMap_nil, List.filterMap_cons, and_self, CMul_iff, or_true, true_or, Int.reduceLT, Int.reduceLE, Int.reduceToNat, Int.reduceNeg, Int.reduceSub, Int.reduceAdd, Int.reducePow, Nat.reducePow, Int.reduceMul, ixN_def, Int.cast_ofNat_Int, Int.reduceEq, decide_true, decide_false, dMul_i, dPow_i, strD, reduceCtorEq, ite_true, ite_false, Nat.reduceLT, Nat.reduceLeDiff, Int.reduceAbs, false_and, and_false, or_false, false_or, exists_false]
    by_cases e : y ≤ x
    · rw [if_pos e]; exact h1 (decide_eq_true e)
    · rw [if_neg e]; exact h2 (decide_eq_false e)
  · simp only [sSeq, sNil, sIf, sSet, sAsg, sPar, sPar3, sRet, sRetN, sExpr, sBreak, sCont, sSetIx, wVar, wC, wOp, wChain, wTb, wAnd, wOr, wNotT, wAndV, wOrV, wNotV, wIf, wNil, wCons, wTup, wLst, wLstO, wSl, wNoPart, wPart, wCB, wNeg, wOrT, wTruth, wJoin, wLc, sFor, wipeE, wKw, wYes, wCall, wCallO, wApp, iL, iT, iR1, iR2, iZ, iS, gN, gsNil, gsCons, gTn, endsOf, retR_d, retR_o, sFrz, frz_d, frz_o0, frz_o1, frz_o10, tru_l, tru_t, tru_b, tru_i, tru_n, List.eraseIdx_cons_zero, List.eraseIdx_cons_succ, exists_eq', exists_eq, shf_d, bck_d, toC_nil, toC_d, toC_o, ds_nil, ds_cons, dats_nil, dats_d, dat_d, dat_o0, dat_o1, dat_o2, startE, kg, cutE, cut1_d, cut1_n, cut1_o0, cut1_o1, zipA,
  dAdd_i, dI0_i, dMod_i, dFdiv_i, dPow_i, dLt_i, dLe_i, dGt_i, dGe_i, dLt_s, dLe_s, dGt_s, dGe_s, dEq_i, dEq_s, dEq_b, dEq_is, dEq_si, dEq_ni, dEq_in, dEq_sn, dEq_ns, dNe_i, dNe_s, dNe_b, dNe_is, dNe_si, dNe_ni, dNe_in, dIs_b, dIs_n, dIsNot_b, dIsNot_n, dIx_l, dIx_t, dSl_l, dSl_t, dEq_ti, dEq_li, D.isN, atI_0, atI_1, atI_2, atI_3, atI_4, atI_5, atI_map, map_int_inj, map_str_inj,
  fLen_t, fLen_l, fLen_s, fInt_i, fInt_b, fTup_l, fTup_t, fList_l, fList_t, fMax2_i, fMin2_i, fAbs_i, isi_int_int, isi_int_bool, isi_int_str, isi_int_tup, isi_int_lst, isi_bl_int, isi_bl_bool, isi_bl_str, isi_bl_tup, isi_str_int, isi_str_bool, isi_str_str, isi_str_tup, isi_tup_int, isi_tup_bool, isi_tup_str, isi_tup_tup, isi_lst_int, isi_lst_bool, isi_lst_str, isi_lst_tup, isi_lst_lst, isi_non_int, isi_non_bool, isi_non_str, isi_non_tup, items_t, items_l,
  List.getElem?_cons_zero, List.getElem?_cons_succ, List.set_cons_zero, List.set_cons_succ, List.map_cons, List.map_nil, List.length_cons, List.length_nil, List.cons_append, List.nil_append, List.append_nil, List.replicate_succ, List.replicate_zero, Nat.reduceAdd, Nat.reduceSub, List.head?_cons, List.tail_cons, List.take_succ_cons, List.take_zero, List.take_nil,
  Option.some.injEq, Option.map_some, Option.map_none, exists_eq_left', exists_eq_left, Rv.d.injEq, Rv.o.injEq, D.int.injEq, D.bl.injEq, D.str.injEq, D.tup.injEq, D.lst.injEq, MO.lst.injEq, List.cons.injEq, and_true, true_and, and_assoc, exists_and_left, decide_eq_true_eq, if_true, Bool.true_eq_false, Bool.false_eq_true, if_false, reduceIte, Bool.not_true, Bool.not_false, eq_self, exists_const, List.filterMap_cons_some, List.filterMap_nil, List.filterMap_cons, and_self, CMul_iff, or_true, true_or, Int.reduceLT, Int.reduceLE, Int.reduceToNat, Int.reduceNeg, Int.reduceSub, Int.reduceAdd, Int.reducePow, Nat.reducePow, Int.reduceMul, ixN_def, Int.cast_ofNat_Int, Int.reduceEq, decide_true, decide_false, dMul_i, dPow_i, strD, reduceCtorEq, ite_true, ite_false, Nat.reduceLT, Nat.reduceLeDiff, Int.reduceAbs, false_and, and_false, or_false, false_or, exists_false]
    by_cases e : x < y
    · rw [if_pos e]; exact h1 (decide_eq_true e)
    · rw [if_neg e]; exact h2 (decide_eq_false e)
  · have l1 := List.length_filter_le (fun y => decide (y ≤ x)) ns
    have l2 := List.length_filter_le (fun y => decide (x < y)) ns
    refine ⟨_, by rw [dAdd_l, if_pos (sz (by simp; omega))], _, by rw [dAdd_l, if_pos (sz (by simp; omega))], ?_⟩
    unfold lput at h
    simpa using h
end Lk00
set_option Elab.async false
set_option linter.all false
set_option maxRecDepth 100000
set_option maxHeartbeats 4000000
namespace Lk00
open PySem PySem.Spec PyProof.Rows L2 Dw
def c__law_row : Ct := fun rs M R => ∃ (n : Nat) (tr : MO) (m : Nat), rs = [.o 0, .d (.int m)] ∧ M = [tr] ∧ TrayOk n tr ∧ n + 200 ≤ 1000000 ∧ m ≤ 60 ∧ ∀ (ns : List Int) tr', Srt ns → ns.length ≤ m → (∀ y ∈ ns, InR y) → TrayOk (n + 200) tr' → R (.d (.tup (ns.map .int))) [tr']
theorem ln__law_row : ∀ rs M R, c__law_row rs M R → rs.length = 2 ∧ M.length = 1 := by
  rintro rs M R ⟨n, tr, m, rfl, rfl, _⟩; exact ⟨rfl, rfl⟩
set_option maxHeartbeats 8000000 in
theorem ok__law_row {P : Program} {w : World} {K : PySem.W.Frag} {mg : Str → Option Value} {base : Heap} (T : Tx K mg) : FnOk P w K mg base CX0 3 T.a__law_row T.fd__law_row ["tray", "most"] (spD K c__law_row) := by
  refine fnD (n0 := 1) T.F__law_row sc__law_row ln__law_row fun cdv A outer s H E hr => ⟨_, (qss_cons (qs_set (i := 2) sc__law_row.nd rfl (.inl rfl) (qe_lst qa_nil)) (qss_cons (qs_for PassesOwn.never rfl (qi_range1 (by rfl) T.n_range (qa_cons (qe_callO 0 (ok__law_pick T) (hr.mono (by decide)) (by rfl) T.g__law_pick T.F__law_pick.kp (b__law_pick T) (qa_cons (qv 0) (qa_cons (qe_add (qv 1) qe_int) qa_nil))) qa_nil)) (qg_name (i := 3) sc__law_row.nd rfl (by first | exact .inl rfl | exact .inr rfl)) (qss_one (qs_set (i := 2) sc__law_row.nd rfl (.inl rfl) (qe_call (ok__law_put T) (hr.mono (by decide)) (by rfl) T.g__law_put T.F__law_put.kp (b__law_put T) (qa_cons (qv 2) (qa_cons (qe_callO 0 (ok__law_thing T) (hr.mono (by decide)) (by rfl) T.g__law_thing T.F__law_thing.kp (b__law_thing T) (qa_cons (qv 0) qa_nil)) qa_nil)))))) (qss_one (qs_ret (qe_tuple (by rfl) T.n_tuple (qa_cons (qv 2) qa_nil)))))), fun rs M R h => ?_⟩
  obtain ⟨n, tr, m, rfl, rfl, ht, hn, hm, h⟩ := h
  simp only [sSeq, sNil, sIf, sSet, sAsg, sPar, sPar3, sRet, sRetN, sExpr, sBreak, sCont, sSetIx, wVar, wC, wOp, wChain, wTb, wAnd, wOr, wNotT, wAndV, wOrV, wNotV, wIf, wNil, wCons, wTup, wLst, wLstO, wSl, wNoPart, wPart, wCB, wNeg, wOrT, wTruth, wJoin, wLc, sFor, wipeE, wKw, wYes, wCall, wCallO, wApp, iL, iT, iR1, iR2, iZ, iS, gN, gsNil, gsCons, gTn, endsOf, retR_d, retR_o, sFrz, frz_d, frz_o0, frz_o1, frz_o10, tru_l, tru_t, tru_b, tru_i, tru_n, List.eraseIdx_cons_zero, List.eraseIdx_cons_succ, exists_eq', exists_eq, shf_d, bck_d, toC_nil, toC_d, toC_o, ds_nil, ds_cons, dats_nil, dats_d, dat_d, dat_o0, dat_o1, dat_o2, startE, kg, cutE, cut1_d, cut1_n, cut1_o0, cut1_o1, zipA,
  dAdd_i, dI0_i, dMod_i, dFdiv_i, dPow_i, dLt_i, dLe_i, dGt_i, dGe_i, dLt_s, dLe_s, dGt_s, dGe_s, dEq_i, dEq_s, dEq_b, dEq_is, dEq_si, dEq_ni, dEq_in, dEq_sn, dEq_ns, dNe_i, dNe_s, dNe_b, dNe_is, dNe_si, dNe_ni, dNe_in, dIs_b, dIs_n, dIsNot_b, dIsNot_n, dIx_l, dIx_t, dSl_l, dSl_t, dEq_ti, dEq_li, D.isN, atI_0, atI_1, atI_2, atI_3, atI_4, atI_5, atI_map, map_int_inj, map_str_inj,
  fLen_t, fLen_l, fLen_s, fInt_i, fInt_b, fTup_l, fTup_t, fList_l, fList_t, fMax2_i, fMin2_i, fAbs_i, isi_int_int, isi_int_bool, isi_int_str, isi_int_tup, isi_int_lst, isi_bl_int, isi_bl_bool, isi_bl_str, isi_bl_tup, isi_str_int, isi_str_bool, isi_str_str, isi_str_tup, isi_tup_int, isi_tup_bool, isi_tup_str, isi_tup_tup, isi_lst_int, isi_lst_bool, isi_lst_str, isi_lst_tup, isi_lst_lst, isi_non_int, isi_non_bool, isi_non_str, isi_non_tup, items_t, items_l,
  List.getElem?_cons_zero, List.getElem?_cons_succ, List.set_cons_zero, List.set_cons_succ, List.map_cons, List.map_nil, List.length_cons, List.length_nil, List.cons_append, List.nil_append, List.append_nil, List.replicate_succ, List.replicate_zero, Nat.reduceAdd, Nat.reduceSub, List.head?_cons, List.tail_cons, List.take_succ_cons, List.take_zero, List.take_nil,
  Option.some.injEq, Option.map_some, Option.map_none, exists_eq_left', exists_eq_left, Rv.d.injEq, Rv.o.injEq, D.int.injEq, D.bl.injEq, D.str.injEq, D.tup.injEq, D.lst.injEq, MO.lst.injEq, List.cons.injEq, and_true, true_and, and_assoc, exists_and_left, decide_eq_true_eq, if_true, Bool.true_eq_false, Bool.false_eq_true, if_false, reduceIte, Bool.not_true, Bool.not_false, eq_self, exists_const, List.filterMap_cons_some, List.filterMap_nil, List.filterMap_cons, and_self, CMul_iff, or_true, true_or, Int.reduceLT, Int.reduceLE, Int.reduceToNat, Int.reduceNeg, Int.reduceSub, Int.reduceAdd, Int.reducePow, Nat.reducePow, Int.reduceMul, ixN_def, Int.cast_ofNat_Int, Int.reduceEq, decide_true, decide_false, dMul_i, dPow_i, strD, reduceCtorEq, ite_true, ite_false, Nat.reduceLT, Nat.reduceLeDiff, Int.reduceAbs, false_and, and_false, or_false, false_or, exists_false]
  refine ⟨sz (by decide), n, tr, m + 1, rfl, rfl, ht, by omega, by omega, fun r t1 r0 r1 ht1 => ?_⟩
  simp only [sSeq, sNil, sIf, sSet, sAsg, sPar, sPar3, sRet, sRetN, sExpr, sBreak, sCont, sSetIx, wVar, wC, wOp, wChain, wTb, wAnd, wOr, wNotT, wAndV, wOrV, wNotV, wIf, wNil, wCons, wTup, wLst, wLstO, wSl, wNoPart, wPart, wCB, wNeg, wOrT, wTruth, wJoin, wLc, sFor, wipeE, wKw, wYes, wCall, wCallO, wApp, iL, iT, iR1, iR2, iZ, iS, gN, gsNil, gsCons, gTn, endsOf, retR_d, retR_o, sFrz, frz_d, frz_o0, frz_o1, frz_o10, tru_l, tru_t, tru_b, tru_i, tru_n, List.eraseIdx_cons_zero, List.eraseIdx_cons_succ, exists_eq', exists_eq, shf_d, bck_d, toC_nil, toC_d, toC_o, ds_nil, ds_cons, dats_nil, dats_d, dat_d, dat_o0, dat_o1, dat_o2, startE, kg, cutE, cut1_d, cut1_n, cut1_o0, cut1_o1, zipA,
  dAdd_i, dI0_i, dMod_i, dFdiv_i, dPow_i, dLt_i, dLe_i, dGt_i, dGe_i, dLt_s, dLe_s, dGt_s, dGe_s, dEq_i, dEq_s, dEq_b, dEq_is, dEq_si, dEq_ni, dEq_in, dEq_sn, dEq_ns, dNe_i, dNe_s, dNe_b, dNe_is, dNe_si, dNe_ni, dNe_in, dIs_b, dIs_n, dIsNot_b, dIsNot_n, dIx_l, dIx_t, dSl_l, dSl_t, dEq_ti, dEq_li, D.isN, atI_0, atI_1, atI_2, atI_3, atI_4, atI_5, atI_map, map_int_inj, map_str_inj,
  fLen_t, fLen_l, fLen_s, fInt_i, fInt_b, fTup_l, fTup_t, fList_l, fList_t, fMax2_i, fMin2_i, fAbs_i, isi_int_int, isi_int_bool, isi_int_str, isi_int_tup, isi_int_lst, isi_bl_int, isi_bl_bool, isi_bl_str, isi_bl_tup, isi_str_int, isi_str_bool, isi_str_str, isi_str_tup, isi_tup_int, isi_tup_bool, isi_tup_str, isi_tup_tup, isi_lst_int, isi_lst_bool, isi_lst_str, isi_lst_tup, isi_lst_lst, isi_non_int, isi_non_bool, isi_non_str, isi_non_tup, items_t, items_l,
  List.getElem?_cons_zero, List.getElem?_cons_succ, List.set_cons_zero, List.set_cons_succ, List.map_cons, List.map_nil, List.length_cons, List.length_nil, List.cons_append, List.nil_append, List.append_nil, List.replicate_succ, List.replicate_zero, Nat.reduceAdd, Nat.reduceSub, List.head?_cons, List.tail_cons, List.take_succ_cons, List.take_zero, List.take_nil,
  Option.some.injEq, Option.map_some, Option.map_none, exists_eq_left', exists_eq_left, Rv.d.injEq, Rv.o.injEq, D.int.injEq, D.bl.injEq, D.str.injEq, D.tup.injEq, D.lst.injEq, MO.lst.injEq, List.cons.injEq, and_true, true_and, and_assoc, exists_and_left, decide_eq_true_eq, if_true, Bool.true_eq_false, Bool.false_eq_true, if_false, reduceIte, Bool.not_true, Bool.not_false, eq_self, exists_const, List.filterMap_cons_some, List.filterMap_nil, List.filterMap_cons, and_self, CMul_iff, or_true, true_or, Int.reduceLT, Int.reduceLE, Int.reduceToNat, Int.reduceNeg, Int.reduceSub, Int.reduceAdd, Int.reducePow, Nat.reducePow, Int.reduceMul, ixN_def, Int.cast_ofNat_Int, Int.reduceEq, decide_true, decide_false, dMul_i, dPow_i, strD, reduceCtorEq, ite_true, ite_false, Nat.reduceLT, Nat.reduceLeDiff, Int.reduceAbs, false_and, and_false, or_false, false_or, exists_false]
  refine ⟨by omega, by omega, for_0 (fun i env M => ∃ (ns : List Int) (e2 e3 : Option Rv) (t : MO), env = [some (.o 0), some (.d (.int m)), some (.d (.lst (ns.map .int))), e3] ∧ M = [t] ∧ TrayOk (n + 1 + 2 * i) t ∧ Srt ns ∧ ns.length ≤ i ∧ (∀ y ∈ ns, InR y))
    ⟨[], none, none, t1, rfl, rfl, ht1.mono (by omega), List.Pairwise.nil, by simp, by simp⟩ (fun i d env M hd hI => ?_) (fun env M hI => ?_)⟩
  · obtain ⟨ns, e2, e3, t, rfl, rfl, g1, g2, g3, g4⟩ := hI
    have hi := (rngD_get hd).1
    simp only [sSeq, sNil, sIf, sSet, sAsg, sPar, sPar3, sRet, sRetN, sExpr, sBreak, sCont, sSetIx, wVar, wC, wOp, wChain, wTb, wAnd, wOr, wNotT, wAndV, wOrV, wNotV, wIf, wNil, wCons, wTup, wLst, wLstO, wSl, wNoPart, wPart, wCB, wNeg, wOrT, wTruth, wJoin, wLc, sFor, wipeE, wKw, wYes, wCall, wCallO, wApp, iL, iT, iR1, iR2, iZ, iS, gN, gsNil, gsCons, gTn, endsOf, retR_d, retR_o, sFrz, frz_d, frz_o0, frz_o1, frz_o10, tru_l, tru_t, tru_b, tru_i, tru_n, List.eraseIdx_cons_zero, List.eraseIdx_cons_succ, exists_eq', exists_eq, shf_d, bck_d, toC_nil, toC_d, toC_o, ds_nil, ds_cons, dats_nil, dats_d, dat_d, dat_o0, dat_o1, dat_o2, startE, kg, cutE, cut1_d, cut1_n, cut1_o0, cut1_o1, zipA,
  dAdd_i, dI0_i, dMod_i, dFdiv_i, dPow_i, dLt_i, dLe_i, dGt_i, dGe_i, dLt_s, dLe_s, dGt_s, dGe_s, dEq_i, dEq_s, dEq_b, dEq_is, dEq_si, dEq_ni, dEq_in, dEq_sn, dEq_ns, dNe_i, dNe_s, dNe_b, dNe_is, dNe_si, dNe_ni, dNe_in, dIs_b, dIs_n, dIsNot_b, dIsNot_n, dIx_l, dIx_t, dSl_l, dSl_t, dEq_ti, dEq_li, D.isN, atI_0, atI_1, atI_2, atI_3, atI_4, atI_5, atI_map, map_int_inj, map_str_inj,
  fLen_t, fLen_l, fLen_s, fInt_i, fInt_b, fTup_l, fTup_t, fList_l, fList_t, fMax2_i, fMin2_i, fAbs_i, isi_int_int, isi_int_bool, isi_int_str, isi_int_tup, isi_int_lst, isi_bl_int, isi_bl_bool, isi_bl_str, isi_bl_tup, isi_str_int, isi_str_bool, isi_str_str, isi_str_tup, isi_tup_int, isi_tup_bool, isi_tup_str, isi_tup_tup, isi_lst_int, isi_lst_bool, isi_lst_str, isi_lst_tup, isi_lst_lst, isi_non_int, isi_non_bool, isi_non_str, isi_non_tup, items_t, items_l,
  List.getElem?_cons_zero, List.getElem?_cons_succ, List.set_cons_zero, List.set_cons_succ, List.map_cons, List.map_nil, List.length_cons, List.length_nil, List.cons_append, List.nil_append, List.append_nil, List.replicate_succ, List.replicate_zero, Nat.reduceAdd, Nat.reduceSub, List.head?_cons, List.tail_cons, List.take_succ_cons, List.take_zero, List.take_nil,
  Option.some.injEq, Option.map_some, Option.map_none, exists_eq_left', exists_eq_left, Rv.d.injEq, Rv.o.injEq, D.int.injEq, D.bl.injEq, D.str.injEq, D.tup.injEq, D.lst.injEq, MO.lst.injEq, List.cons.injEq, and_true, true_and, and_assoc, exists_and_left, decide_eq_true_eq, if_true, Bool.true_eq_false, Bool.false_eq_true, if_false, reduceIte, Bool.not_true, Bool.not_false, eq_self, exists_const, List.filterMap_cons_some, List.filterMap_nil, List.filterMap_cons, and_self, CMul_iff, or_true, true_or, Int.reduceLT, Int.reduceLE, Int.reduceToNat, Int.reduceNeg, Int.reduceSub, Int.reduceAdd, Int.reducePow, Nat.reducePow, Int.reduceMul, ixN_def, Int.cast_ofNat_Int, Int.reduceEq, decide_true, decide_false, dMul_i, dPow_i, strD, reduceCtorEq, ite_true, ite_false, Nat.reduceLT, Nat.reduceLeDiff, Int.reduceAbs, false_and, and_false, or_false, false_or, exists_false]
    refine ⟨n + 1 + 2 * i, t, rfl, rfl, g1, by omega, fun x t2 hx ht2 => ?_⟩
    simp only [sSeq, sNil, sIf, sSet, sAsg, sPar, sPar3, sRet, sRetN, sExpr, sBreak, sCont, sSetIx, wVar, wC, wOp, wChain, wTb, wAnd, wOr, wNotT, wAndV, wOrV, wNotV, wIf, wNil, wCons, wTup, wLst, wLstO, wSl, wNoPart, wPart, wCB, wNeg, wOrT, wTruth, wJoin, wLc, sFor, wipeE, wKw, wYes, wCall, wCallO, wApp, iL, iT, iR1, iR2, iZ, iS, gN, gsNil, gsCons, gTn, endsOf, retR_d, retR_o, sFrz, frz_d, frz_o0, frz_o1, frz_o10, tru_l, tru_t, tru_b, tru_i, tru_n, List.eraseIdx_cons_zero, List.eraseIdx_cons_succ, exists_eq', exists_eq, shf_d, bck_d, toC_nil, toC_d, toC_o, ds_nil, ds_cons, dats_nil, dats_d, dat_d, dat_o0, dat_o1, dat_o2, startE, kg, cutE, cut1_d, cut1_n, cut1_o0, cut1_o1, zipA,
  dAdd_i, dI0_i, dMod_i, dFdiv_i, dPow_i, dLt_i, dLe_i, dGt_i, dGe_i, dLt_s, dLe_s, dGt_s, dGe_s, dEq_i, dEq_s, dEq_b, dEq_is, dEq_si, dEq_ni, dEq_in, dEq_sn, dEq_ns, dNe_i, dNe_s, dNe_b, dNe_is, dNe_si, dNe_ni, dNe_in, dIs_b, dIs_n, dIsNot_b, dIsNot_n, dIx_l, dIx_t, dSl_l, dSl_t, dEq_ti, dEq_li, D.isN, atI_0, atI_1, atI_2, atI_3, atI_4, atI_5, atI_map, map_int_inj, map_str_inj,
  fLen_t, fLen_l, fLen_s, fInt_i, fInt_b, fTup_l, fTup_t, fList_l, fList_t, fMax2_i, fMin2_i, fAbs_i, isi_int_int, isi_int_bool, isi_int_str, isi_int_tup, isi_int_lst, isi_bl_int, isi_bl_bool, isi_bl_str, isi_bl_tup, isi_str_int, isi_str_bool, isi_str_str, isi_str_tup, isi_tup_int, isi_tup_bool, isi_tup_str, isi_tup_tup, isi_lst_int, isi_lst_bool, isi_lst_str, isi_lst_tup, isi_lst_lst, isi_non_int, isi_non_bool, isi_non_str, isi_non_tup, items_t, items_l,
  List.getElem?_cons_zero, List.getElem?_cons_succ, List.set_cons_zero, List.set_cons_succ, List.map_cons, List.map_nil, List.length_cons, List.length_nil, List.cons_append, List.nil_append, List.append_nil, List.replicate_succ, List.replicate_zero, Nat.reduceAdd, Nat.reduceSub, List.head?_cons, List.tail_cons, List.take_succ_cons, List.take_zero, List.take_nil,
  Option.some.injEq, Option.map_some, Option.map_none, exists_eq_left', exists_eq_left, Rv.d.injEq, Rv.o.injEq, D.int.injEq, D.bl.injEq, D.str.injEq, D.tup.injEq, D.lst.injEq, MO.lst.injEq, List.cons.injEq, and_true, true_and, and_assoc, exists_and_left, decide_eq_true_eq, if_true, Bool.true_eq_false, Bool.false_eq_true, if_false, reduceIte, Bool.not_true, Bool.not_false, eq_self, exists_const, List.filterMap_cons_some, List.filterMap_nil, List.filterMap_cons, and_self, CMul_iff, or_true, true_or, Int.reduceLT, Int.reduceLE, Int.reduceToNat, Int.reduceNeg, Int.reduceSub, Int.reduceAdd, Int.reducePow, Nat.reducePow, Int.reduceMul, ixN_def, Int.cast_ofNat_Int, Int.reduceEq, decide_true, decide_false, dMul_i, dPow_i, strD, reduceCtorEq, ite_true, ite_false, Nat.reduceLT, Nat.reduceLeDiff, Int.reduceAbs, false_and, and_false, or_false, false_or, exists_false]
    refine ⟨ns, x, rfl, rfl, by omega, ?_⟩
    simp only [sSeq, sNil, sIf, sSet, sAsg, sPar, sPar3, sRet, sRetN, sExpr, sBreak, sCont, sSetIx, wVar, wC, wOp, wChain, wTb, wAnd, wOr, wNotT, wAndV, wOrV, wNotV, wIf, wNil, wCons, wTup, wLst, wLstO, wSl, wNoPart, wPart, wCB, wNeg, wOrT, wTruth, wJoin, wLc, sFor, wipeE, wKw, wYes, wCall, wCallO, wApp, iL, iT, iR1, iR2, iZ, iS, gN, gsNil, gsCons, gTn, endsOf, retR_d, retR_o, sFrz, frz_d, frz_o0, frz_o1, frz_o10, tru_l, tru_t, tru_b, tru_i, tru_n, List.eraseIdx_cons_zero, List.eraseIdx_cons_succ, exists_eq', exists_eq, shf_d, bck_d, toC_nil, toC_d, toC_o, ds_nil, ds_cons, dats_nil, dats_d, dat_d, dat_o0, dat_o1, dat_o2, startE, kg, cutE, cut1_d, cut1_n, cut1_o0, cut1_o1, zipA,
  dAdd_i, dI0_i, dMod_i, dFdiv_i, dPow_i, dLt_i, dLe_i, dGt_i, dGe_i, dLt_s, dLe_s, dGt_s, dGe_s, dEq_i, dEq_s, dEq_b, dEq_is, dEq_si, dEq_ni, dEq_in, dEq_sn, dEq_ns, dNe_i, dNe_s, dNe_b, dNe_is, dNe_si, dNe_ni, dNe_in, dIs_b, dIs_n, dIsNot_b, dIsNot_n, dIx_l, dIx_t, dSl_l, dSl_t, dEq_ti, dEq_li, D.isN, atI_0, atI_1, atI_2, atI_3, atI_4, atI_5, atI_map, map_int_inj, map_str_inj,
  fLen_t, fLen_l, fLen_s, fInt_i, fInt_b, fTup_l, fTup_t, fList_l, fList_t, fMax2_i, fMin2_i, fAbs_i, isi_int_int, isi_int_bool, isi_int_str, isi_int_tup, isi_int_lst, isi_bl_int, isi_bl_bool, isi_bl_str, isi_bl_tup, isi_str_int, isi_str_bool, isi_str_str, isi_str_tup, isi_tup_int, isi_tup_bool, isi_tup_str, isi_tup_tup, isi_lst_int, isi_lst_bool, isi_lst_str, isi_lst_tup, isi_lst_lst, isi_non_int, isi_non_bool, isi_non_str, isi_non_tup, items_t, items_l,
  List.getElem?_cons_zero, List.getElem?_cons_succ, List.set_cons_zero, List.set_cons_succ, List.map_cons, List.map_nil, List.length_cons, List.length_nil, List.cons_append, List.nil_append, List.append_nil, List.replicate_succ, List.replicate_zero, Nat.reduceAdd, Nat.reduceSub, List.head?_cons, List.tail_cons, List.take_succ_cons, List.take_zero, List.take_nil,
  Option.some.injEq, Option.map_some, Option.map_none, exists_eq_left', exists_eq_left, Rv.d.injEq, Rv.o.injEq, D.int.injEq, D.bl.injEq, D.str.injEq, D.tup.injEq, D.lst.injEq, MO.lst.injEq, List.cons.injEq, and_true, true_and, and_assoc, exists_and_left, decide_eq_true_eq, if_true, Bool.true_eq_false, Bool.false_eq_true, if_false, reduceIte, Bool.not_true, Bool.not_false, eq_self, exists_const, List.filterMap_cons_some, List.filterMap_nil, List.filterMap_cons, and_self, CMul_iff, or_true, true_or, Int.reduceLT, Int.reduceLE, Int.reduceToNat, Int.reduceNeg, Int.reduceSub, Int.reduceAdd, Int.reducePow, Nat.reducePow, Int.reduceMul, ixN_def, Int.cast_ofNat_Int, Int.reduceEq, decide_true, decide_false, dMul_i, dPow_i, strD, reduceCtorEq, ite_true, ite_false, Nat.reduceLT, Nat.reduceLeDiff, Int.reduceAbs, false_and, and_false, or_false, false_or, exists_false]
    rw [lput_eq ns x g2]
    refine ⟨ht2.mono (by omega), putIn_srt _ _ g2, by rw [putIn_len]; omega, fun y hy => ?_⟩
    rcases List.mem_cons.mp ((putIn_perm ns x).mem_iff.mp hy) with rfl | hy
    · exact hx
    · exact g4 y hy
  · obtain ⟨ns, e2, e3, t, rfl, rfl, g1, g2, g3, g4⟩ := hI
    rw [rng_len] at g1 g3
    simp only [sSeq, sNil, sIf, sSet, sAsg, sPar, sPar3, sRet, sRetN, sExpr, sBreak, sCont, sSetIx, wVar, wC, wOp, wChain, wTb, wAnd, wOr, wNotT, wAndV, wOrV, wNotV, wIf, wNil, wCons, wTup, wLst, wLstO, wSl, wNoPart, wPart, wCB, wNeg, wOrT, wTruth, wJoin, wLc, sFor, wipeE, wKw, wYes, wCall, wCallO, wApp, iL, iT, iR1, iR2, iZ, iS, gN, gsNil, gsCons, gTn, endsOf, retR_d, retR_o, sFrz, frz_d, frz_o0, frz_o1, frz_o10, tru_l, tru_t, tru_b, tru_i, tru_n, List.eraseIdx_cons_zero, List.eraseIdx_cons_succ, exists_eq', exists_eq, shf_d, bck_d, toC_nil, toC_d, toC_o, ds_nil, ds_cons, dats_nil, dats_d, dat_d, dat_o0, dat_o1, dat_o2, startE, kg, cutE, cut1_d, cut1_n, cut1_o0, cut1_o1, zipA,
  dAdd_i, dI0_i, dMod_i, dFdiv_i, dPow_i, dLt_i, dLe_i, dGt_i, dGe_i, dLt_s, dLe_s, dGt_s, dGe_s, dEq_i, dEq_s, dEq_b, dEq_is, dEq_si, dEq_ni, dEq_in, dEq_sn, dEq_ns, dNe_i, dNe_s, dNe_b, dNe_is, dNe_si, dNe_ni, dNe_in, dIs_b, dIs_n, dIsNot_b, dIsNot_n, dIx_l, dIx_t, dSl_l, dSl_t, dEq_ti, dEq_li, D.isN, atI_0, atI_1, atI_2, atI_3, atI_4, atI_5, atI_map, map_int_inj, map_str_inj,
  fLen_t, fLen_l, fLen_s, fInt_i, fInt_b, fTup_l, fTup_t, fList_l, fList_t, fMax2_i, fMin2_i, fAbs_i, isi_int_int, isi_int_bool, isi_int_str, isi_int_tup, isi_int_lst, isi_bl_int, isi_bl_bool, isi_bl_str, isi_bl_tup, isi_str_int, isi_str_bool, isi_str_str, isi_str_tup, isi_tup_int, isi_tup_bool, isi_tup_str, isi_tup_tup, isi_lst_int, isi_lst_bool, isi_lst_str, isi_lst_tup, isi_lst_lst, isi_non_int, isi_non_bool, isi_non_str, isi_non_tup, items_t, items_l,
  List.getElem?_cons_zero, List.getElem?_cons_succ, List.set_cons_zero, List.set_cons_succ, List.map_cons, List.map_nil, List.length_cons, List.length_nil, List.cons_append, List.nil_append, List.append_nil, List.replicate_succ, List.replicate_zero, Nat.reduceAdd, Nat.reduceSub, List.head?_cons, List.tail_cons, List.take_succ_cons, List.take_zero, List.take_nil,
  Option.some.injEq, Option.map_some, Option.map_none, exists_eq_left', exists_eq_left, Rv.d.injEq, Rv.o.injEq, D.int.injEq, D.bl.injEq, D.str.injEq, D.tup.injEq, D.lst.injEq, MO.lst.injEq, List.cons.injEq, and_true, true_and, and_assoc, exists_and_left, decide_eq_true_eq, if_true, Bool.true_eq_false, Bool.false_eq_true, if_false, reduceIte, Bool.not_true, Bool.not_false, eq_self, exists_const, List.filterMap_cons_some, List.filterMap_nil, List.filterMap_cons, and_self, CMul_iff, or_true, true_or, Int.reduceLT, Int.reduceLE, Int.reduceToNat, Int.reduceNeg, Int.reduceSub, Int.reduceAdd, Int.reducePow, Nat.reducePow, Int.reduceMul, ixN_def, Int.cast_ofNat_Int, Int.reduceEq, decide_true, decide_false, dMul_i, dPow_i, strD, reduceCtorEq, ite_true, ite_false, Nat.reduceLT, Nat.reduceLeDiff, Int.reduceAbs, false_and, and_false, or_false, false_or, exists_false]
    exact h ns t g2 (by omega) g4 (g1.mono (by omega))
end Lk00
set_option Elab.async false
set_option linter.all false
set_option maxRecDepth 100000
set_option maxHeartbeats 4000000
namespace Lk00
open PySem PySem.Spec PyProof.Rows L2 Dw
def c__law_word : Ct := fun rs M R => ∃ (n : Nat) (tr : MO) (x : Str) (lo hi : Nat), rs = [.o 0, .d (.str x)] ∧ M = [tr] ∧ TrayOk n tr ∧ n + 10 ≤ 1000000 ∧ x.length = 26 ∧ allIn lo hi x = true ∧ ∀ (s : Str) tr', 1 ≤ s.length → s.length ≤ 8 → allIn lo hi s = true → TrayOk (n + 10) tr' → R (.d (.str s)) [tr']
theorem ln__law_word : ∀ rs M R, c__law_word rs M R → rs.length = 2 ∧ M.length = 1 := by
  rintro rs M R ⟨n, tr, m, lo, hi, rfl, rfl, _⟩; exact ⟨rfl, rfl⟩
set_option maxHeartbeats 8000000 in
theorem ok__law_word {P : Program} {w : World} {K : PySem.W.Frag} {mg : Str → Option Value} {base : Heap} (T : Tx K mg) : FnOk P w K mg base CX0 2 T.a__law_word T.fd__law_word ["tray", "letters"] (spD K c__law_word) := by
  refine fnD (n0 := 1) T.F__law_word sc__law_word ln__law_word fun cdv A outer s H E hr => ⟨_, (qss_cons (qs_set (i := 2) sc__law_word.nd rfl (.inl rfl) (qe_ix (qe_tup (qa_cons qe_int (qa_cons qe_int (qa_cons (qe_add qe_int (qe_callO 0 (ok__law_pick T) (hr.mono (by decide)) (by rfl) T.g__law_pick T.F__law_pick.kp (b__law_pick T) (qa_cons (qv 0) (qa_cons qe_int qa_nil)))) qa_nil)))) (qe_callO 0 (ok__law_pick T) (hr.mono (by decide)) (by rfl) T.g__law_pick T.F__law_pick.kp (b__law_pick T) (qa_cons (qv 0) (qa_cons qe_int qa_nil))))) (qss_one (qs_ret (qe_join qe_str (qe_lc rfl sc__law_word.nd (qi_range1 (by rfl) T.n_range (qa_cons (qv 2) qa_nil)) (blkOk_by (own := [("lap", 3)]) (N := ["tray", "letters", "many", "lap"]) (sc := defScope s__law_word) (by decide +kernel)) (by decide) (fun _ _ _ _ _ => (qg_name (i := 3) sc__law_word.nd rfl (by first | exact .inl rfl | exact .inr rfl))) (fun _ _ _ _ _ => qts_nil) (fun _ _ _ _ _ => (qe_ix (qv 1) (qe_callO 0 (ok__law_pick T) (hr.mono (by decide)) (by rfl) T.g__law_pick T.F__law_pick.kp (b__law_pick T) (qa_cons (qv 0) (qa_cons qe_int qa_nil)))))))))), fun rs M R h => ?_⟩
  obtain ⟨n, tr, x, lo, hi, rfl, rfl, ht, hn, hl, hx, h⟩ := h
  simp only [sSeq, sNil, sIf, sSet, sAsg, sPar, sPar3, sRet, sRetN, sExpr, sBreak, sCont, sSetIx, wVar, wC, wOp, wChain, wTb, wAnd, wOr, wNotT, wAndV, wOrV, wNotV, wIf, wNil, wCons, wTup, wLst, wLstO, wSl, wNoPart, wPart, wCB, wNeg, wOrT, wTruth, wJoin, wLc, sFor, wipeE, wKw, wYes, wCall, wCallO, wApp, iL, iT, iR1, iR2, iZ, iS, gN, gsNil, gsCons, gTn, endsOf, retR_d, retR_o, sFrz, frz_d, frz_o0, frz_o1, frz_o10, tru_l, tru_t, tru_b, tru_i, tru_n, List.eraseIdx_cons_zero, List.eraseIdx_cons_succ, exists_eq', exists_eq, shf_d, bck_d, toC_nil, toC_d, toC_o, ds_nil, ds_cons, dats_nil, dats_d, dat_d, dat_o0, dat_o1, dat_o2, startE, kg, cutE, cut1_d, cut1_n, cut1_o0, cut1_o1, zipA,
  dAdd_i, dI0_i, dMod_i, dFdiv_i, dPow_i, dLt_i, dLe_i, dGt_i, dGe_i, dLt_s, dLe_s, dGt_s, dGe_s, dEq_i, dEq_s, dEq_b, dEq_is, dEq_si, dEq_ni, dEq_in, dEq_sn, dEq_ns, dNe_i, dNe_s, dNe_b, dNe_is, dNe_si, dNe_ni, dNe_in, dIs_b, dIs_n, dIsNot_b, dIsNot_n, dIx_l, dIx_t, dSl_l, dSl_t, dEq_ti, dEq_li, D.isN, atI_0, atI_1, atI_2, atI_3, atI_4, atI_5, atI_map, map_int_inj, map_str_inj,
  fLen_t, fLen_l, fLen_s, fInt_i, fInt_b, fTup_l, fTup_t, fList_l, fList_t, fMax2_i, fMin2_i, fAbs_i, isi_int_int, isi_int_bool, isi_int_str, isi_int_tup, isi_int_lst, isi_bl_int, isi_bl_bool, isi_bl_str, isi_bl_tup, isi_str_int, isi_str_bool, isi_str_str, isi_str_tup, isi_tup_int, isi_tup_bool, isi_tup_str, isi_tup_tup, isi_lst_int, isi_lst_bool, isi_lst_str, isi_lst_tup, isi_lst_lst, isi_non_int, isi_non_bool, isi_non_str, isi_non_tup, items_t, items_l,
  List.getElem?_cons_zero, List.getElem?_cons_succ, List.set_cons_zero, List.set_cons_succ, List.map_cons, List.map_nil, List.length_cons, List.length_nil, List.cons_append, List.nil_append, List.append_nil, List.replicate_succ, List.replicate_zero, Nat.reduceAdd, Nat.reduceSub, List.head?_cons, List.tail_cons, List.take_succ_cons, List.take_zero, List.take_nil,
  Option.some.injEq, Option.map_some, Option.map_none, exists_eq_left', exists_eq_left, Rv.d.injEq, Rv.o.injEq, D.int.injEq, D.bl.injEq, D.str.injEq, D.tup.injEq, D.lst.injEq, MO.lst.injEq, List.cons.injEq, and_true, true_and, and_assoc, exists_and_left, decide_eq_true_eq, if_true, Bool.true_eq_false, Bool.false_eq_true, if_false, reduceIte, Bool.not_true, Bool.not_false, eq_self, exists_const, List.filterMap_cons_some, List.filterMap_nil, List.filterMap_cons, and_self, CMul_iff, or_true, true_or, Int.reduceLT, Int.reduceLE, Int.reduceToNat, Int.reduceNeg, Int.reduceSub, Int.reduceAdd, Int.reducePow, Nat.reducePow, Int.reduceMul, ixN_def, Int.cast_ofNat_Int, Int.reduceEq, decide_true, decide_false, dMul_i, dPow_i, strD, reduceCtorEq, ite_true, ite_false, Nat.reduceLT, Nat.reduceLeDiff, Int.reduceAbs, false_and, and_false, or_false, false_or, exists_false]
  refine ⟨n, tr, 8, rfl, rfl, ht, by omega, by omega, fun r t1 r0 r1 ht1 => ?_⟩
  simp only [sSeq, sNil, sIf, sSet, sAsg, sPar, sPar3, sRet, sRetN, sExpr, sBreak, sCont, sSetIx, wVar, wC, wOp, wChain, wTb, wAnd, wOr, wNotT, wAndV, wOrV, wNotV, wIf, wNil, wCons, wTup, wLst, wLstO, wSl, wNoPart, wPart, wCB, wNeg, wOrT, wTruth, wJoin, wLc, sFor, wipeE, wKw, wYes, wCall, wCallO, wApp, iL, iT, iR1, iR2, iZ, iS, gN, gsNil, gsCons, gTn, endsOf, retR_d, retR_o, sFrz, frz_d, frz_o0, frz_o1, frz_o10, tru_l, tru_t, tru_b, tru_i, tru_n, List.eraseIdx_cons_zero, List.eraseIdx_cons_succ, exists_eq', exists_eq, shf_d, bck_d, toC_nil, toC_d, toC_o, ds_nil, ds_cons, dats_nil, dats_d, dat_d, dat_o0, dat_o1, dat_o2, startE, kg, cutE, cut1_d, cut1_n, cut1_o0, cut1_o1, zipA,
  dAdd_i, dI0_i, dMod_i, dFdiv_i, dPow_i, dLt_i, dLe_i, dGt_i, dGe_i, dLt_s, dLe_s, dGt_s, dGe_s, dEq_i, dEq_s, dEq_b, dEq_is, dEq_si, dEq_ni, dEq_in, dEq_sn, dEq_ns, dNe_i, dNe_s, dNe_b, dNe_is, dNe_si, dNe_ni, dNe_in, dIs_b, dIs_n, dIsNot_b, dIsNot_n, dIx_l, dIx_t, dSl_l, dSl_t, dEq_ti, dEq_li, D.isN, atI_0, atI_1, atI_2, atI_3, atI_4, atI_5, atI_map, map_int_inj, map_str_inj,
  fLen_t, fLen_l, fLen_s, fInt_i, fInt_b, fTup_l, fTup_t, fList_l, fList_t, fMax2_i, fMin2_i, fAbs_i, isi_int_int, isi_int_bool, isi_int_str, isi_int_tup, isi_int_lst, isi_bl_int, isi_bl_bool, isi_bl_str, isi_bl_tup, isi_str_int, isi_str_bool, isi_str_str, isi_str_tup, isi_tup_int, isi_tup_bool, isi_tup_str, isi_tup_tup, isi_lst_int, isi_lst_bool, isi_lst_str, isi_lst_tup, isi_lst_lst, isi_non_int, isi_non_bool, isi_non_str, isi_non_tup, items_t, items_l,
  List.getElem?_cons_zero, List.getElem?_cons_succ, List.set_cons_zero, List.set_cons_succ, List.map_cons, List.map_nil, List.length_cons, List.length_nil, List.cons_append, List.nil_append, List.append_nil, List.replicate_succ, List.replicate_zero, Nat.reduceAdd, Nat.reduceSub, List.head?_cons, List.tail_cons, List.take_succ_cons, List.take_zero, List.take_nil,
  Option.some.injEq, Option.map_some, Option.map_none, exists_eq_left', exists_eq_left, Rv.d.injEq, Rv.o.injEq, D.int.injEq, D.bl.injEq, D.str.injEq, D.tup.injEq, D.lst.injEq, MO.lst.injEq, List.cons.injEq, and_true, true_and, and_assoc, exists_and_left, decide_eq_true_eq, if_true, Bool.true_eq_false, Bool.false_eq_true, if_false, reduceIte, Bool.not_true, Bool.not_false, eq_self, exists_const, List.filterMap_cons_some, List.filterMap_nil, List.filterMap_cons, and_self, CMul_iff, or_true, true_or, Int.reduceLT, Int.reduceLE, Int.reduceToNat, Int.reduceNeg, Int.reduceSub, Int.reduceAdd, Int.reducePow, Nat.reducePow, Int.reduceMul, ixN_def, Int.cast_ofNat_Int, Int.reduceEq, decide_true, decide_false, dMul_i, dPow_i, strD, reduceCtorEq, ite_true, ite_false, Nat.reduceLT, Nat.reduceLeDiff, Int.reduceAbs, false_and, and_false, or_false, false_or, exists_false]
  refine ⟨sz (by decide), n + 1, t1, 3, rfl, rfl, ht1, by omega, by omega, fun q t2 q0 q1 ht2 => ?_⟩
  simp only [sSeq, sNil, sIf, sSet, sAsg, sPar, sPar3, sRet, sRetN, sExpr, sBreak, sCont, sSetIx, wVar, wC, wOp, wChain, wTb, wAnd, wOr, wNotT, wAndV, wOrV, wNotV, wIf, wNil, wCons, wTup, wLst, wLstO, wSl, wNoPart, wPart, wCB, wNeg, wOrT, wTruth, wJoin, wLc, sFor, wipeE, wKw, wYes, wCall, wCallO, wApp, iL, iT, iR1, iR2, iZ, iS, gN, gsNil, gsCons, gTn, endsOf, retR_d, retR_o, sFrz, frz_d, frz_o0, frz_o1, frz_o10, tru_l, tru_t, tru_b, tru_i, tru_n, List.eraseIdx_cons_zero, List.eraseIdx_cons_succ, exists_eq', exists_eq, shf_d, bck_d, toC_nil, toC_d, toC_o, ds_nil, ds_cons, dats_nil, dats_d, dat_d, dat_o0, dat_o1, dat_o2, startE, kg, cutE, cut1_d, cut1_n, cut1_o0, cut1_o1, zipA,
  dAdd_i, dI0_i, dMod_i, dFdiv_i, dPow_i, dLt_i, dLe_i, dGt_i, dGe_i, dLt_s, dLe_s, dGt_s, dGe_s, dEq_i, dEq_s, dEq_b, dEq_is, dEq_si, dEq_ni, dEq_in, dEq_sn, dEq_ns, dNe_i, dNe_s, dNe_b, dNe_is, dNe_si, dNe_ni, dNe_in, dIs_b, dIs_n, dIsNot_b, dIsNot_n, dIx_l, dIx_t, dSl_l, dSl_t, dEq_ti, dEq_li, D.isN, atI_0, atI_1, atI_2, atI_3, atI_4, atI_5, atI_map, map_int_inj, map_str_inj,
  fLen_t, fLen_l, fLen_s, fInt_i, fInt_b, fTup_l, fTup_t, fList_l, fList_t, fMax2_i, fMin2_i, fAbs_i, isi_int_int, isi_int_bool, isi_int_str, isi_int_tup, isi_int_lst, isi_bl_int, isi_bl_bool, isi_bl_str, isi_bl_tup, isi_str_int, isi_str_bool, isi_str_str, isi_str_tup, isi_tup_int, isi_tup_bool, isi_tup_str, isi_tup_tup, isi_lst_int, isi_lst_bool, isi_lst_str, isi_lst_tup, isi_lst_lst, isi_non_int, isi_non_bool, isi_non_str, isi_non_tup, items_t, items_l,
  List.getElem?_cons_zero, List.getElem?_cons_succ, List.set_cons_zero, List.set_cons_succ, List.map_cons, List.map_nil, List.length_cons, List.length_nil, List.cons_append, List.nil_append, List.append_nil, List.replicate_succ, List.replicate_zero, Nat.reduceAdd, Nat.reduceSub, List.head?_cons, List.tail_cons, List.take_succ_cons, List.take_zero, List.take_nil,
  Option.some.injEq, Option.map_some, Option.map_none, exists_eq_left', exists_eq_left, Rv.d.injEq, Rv.o.injEq, D.int.injEq, D.bl.injEq, D.str.injEq, D.tup.injEq, D.lst.injEq, MO.lst.injEq, List.cons.injEq, and_true, true_and, and_assoc, exists_and_left, decide_eq_true_eq, if_true, Bool.true_eq_false, Bool.false_eq_true, if_false, reduceIte, Bool.not_true, Bool.not_false, eq_self, exists_const, List.filterMap_cons_some, List.filterMap_nil, List.filterMap_cons, and_self, CMul_iff, or_true, true_or, Int.reduceLT, Int.reduceLE, Int.reduceToNat, Int.reduceNeg, Int.reduceSub, Int.reduceAdd, Int.reducePow, Nat.reducePow, Int.reduceMul, ixN_def, Int.cast_ofNat_Int, Int.reduceEq, decide_true, decide_false, dMul_i, dPow_i, strD, reduceCtorEq, ite_true, ite_false, Nat.reduceLT, Nat.reduceLeDiff, Int.reduceAbs, false_and, and_false, or_false, false_or, exists_false]
  obtain ⟨m, hm, m1, m8⟩ : ∃ m : Int, dIx (.tup [.int 1, .int 8, .int (1 + r)]) (.int q) = some (.int m) ∧ 1 ≤ m ∧ m ≤ 8 := by
    have : q = 0 ∨ q = 1 ∨ q = 2 := by omega
    rcases this with rfl | rfl | rfl
    · exact ⟨1, rfl, by omega, by omega⟩
    · exact ⟨8, rfl, by omega, by omega⟩
    · exact ⟨1 + r, rfl, by omega, by omega⟩
  rw [dIx_t] at hm
  simp only [sSeq, sNil, sIf, sSet, sAsg, sPar, sPar3, sRet, sRetN, sExpr, sBreak, sCont, sSetIx, wVar, wC, wOp, wChain, wTb, wAnd, wOr, wNotT, wAndV, wOrV, wNotV, wIf, wNil, wCons, wTup, wLst, wLstO, wSl, wNoPart, wPart, wCB, wNeg, wOrT, wTruth, wJoin, wLc, sFor, wipeE, wKw, wYes, wCall, wCallO, wApp, iL, iT, iR1, iR2, iZ, iS, gN, gsNil, gsCons, gTn, endsOf, retR_d, retR_o, sFrz, frz_d, frz_o0, frz_o1, frz_o10, tru_l, tru_t, tru_b, tru_i, tru_n, List.eraseIdx_cons_zero, List.eraseIdx_cons_succ, exists_eq', exists_eq, shf_d, bck_d, toC_nil, toC_d, toC_o, ds_nil, ds_cons, dats_nil, dats_d, dat_d, dat_o0, dat_o1, dat_o2, startE, kg, cutE, cut1_d, cut1_n, cut1_o0, cut1_o1, zipA,
  dAdd_i, dI0_i, dMod_i, dFdiv_i, dPow_i, dLt_i, dLe_i, dGt_i, dGe_i, dLt_s, dLe_s, dGt_s, dGe_s, dEq_i, dEq_s, dEq_b, dEq_is, dEq_si, dEq_ni, dEq_in, dEq_sn, dEq_ns, dNe_i, dNe_s, dNe_b, dNe_is, dNe_si, dNe_ni, dNe_in, dIs_b, dIs_n, dIsNot_b, dIsNot_n, dIx_l, dIx_t, dSl_l, dSl_t, dEq_ti, dEq_li, D.isN, atI_0, atI_1, atI_2, atI_3, atI_4, atI_5, atI_map, map_int_inj, map_str_inj,
  fLen_t, fLen_l, fLen_s, fInt_i, fInt_b, fTup_l, fTup_t, fList_l, fList_t, fMax2_i, fMin2_i, fAbs_i, isi_int_int, isi_int_bool, isi_int_str, isi_int_tup, isi_int_lst, isi_bl_int, isi_bl_bool, isi_bl_str, isi_bl_tup, isi_str_int, isi_str_bool, isi_str_str, isi_str_tup, isi_tup_int, isi_tup_bool, isi_tup_str, isi_tup_tup, isi_lst_int, isi_lst_bool, isi_lst_str, isi_lst_tup, isi_lst_lst, isi_non_int, isi_non_bool, isi_non_str, isi_non_tup, items_t, items_l,
  List.getElem?_cons_zero, List.getElem?_cons_succ, List.set_cons_zero, List.set_cons_succ, List.map_cons, List.map_nil, List.length_cons, List.length_nil, List.cons_append, List.nil_append, List.append_nil, List.replicate_succ, List.replicate_zero, Nat.reduceAdd, Nat.reduceSub, List.head?_cons, List.tail_cons, List.take_succ_cons, List.take_zero, List.take_nil,
  Option.some.injEq, Option.map_some, Option.map_none, exists_eq_left', exists_eq_left, Rv.d.injEq, Rv.o.injEq, D.int.injEq, D.bl.injEq, D.str.injEq, D.tup.injEq, D.lst.injEq, MO.lst.injEq, List.cons.injEq, and_true, true_and, and_assoc, exists_and_left, decide_eq_true_eq, if_true, Bool.true_eq_false, Bool.false_eq_true, if_false, reduceIte, Bool.not_true, Bool.not_false, eq_self, exists_const, List.filterMap_cons_some, List.filterMap_nil, List.filterMap_cons, and_self, CMul_iff, or_true, true_or, Int.reduceLT, Int.reduceLE, Int.reduceToNat, Int.reduceNeg, Int.reduceSub, Int.reduceAdd, Int.reducePow, Nat.reducePow, Int.reduceMul, ixN_def, Int.cast_ofNat_Int, Int.reduceEq, decide_true, decide_false, dMul_i, dPow_i, strD, reduceCtorEq, ite_true, ite_false, Nat.reduceLT, Nat.reduceLeDiff, Int.reduceAbs, false_and, and_false, or_false, false_or, exists_false, hm]
  refine ⟨by omega, by omega, by rw [rng_len]; exact sz (by omega), lc_inv (fun i M acc => ∃ (ys : List Str) (t : MO), M = [t] ∧ acc = ys.map .str ∧ TrayOk (n + 2 + i) t ∧ ys.length = i ∧ ∀ y ∈ ys, ∃ c, y = ⟨#[c]⟩ ∧ lo ≤ c ∧ c ≤ hi) _ 0 ⟨[], t2, rfl, rfl, ht2, rfl, by simp⟩ (fun i d M acc hd hI => ?_) (fun M acc hI => ?_)⟩
  · obtain ⟨ys, t, rfl, rfl, g1, g2, g3⟩ := hI
    have hi8 := (rngD_get hd).1
    simp only [sSeq, sNil, sIf, sSet, sAsg, sPar, sPar3, sRet, sRetN, sExpr, sBreak, sCont, sSetIx, wVar, wC, wOp, wChain, wTb, wAnd, wOr, wNotT, wAndV, wOrV, wNotV, wIf, wNil, wCons, wTup, wLst, wLstO, wSl, wNoPart, wPart, wCB, wNeg, wOrT, wTruth, wJoin, wLc, sFor, wipeE, wKw, wYes, wCall, wCallO, wApp, iL, iT, iR1, iR2, iZ, iS, gN, gsNil, gsCons, gTn, endsOf, retR_d, retR_o, sFrz, frz_d, frz_o0, frz_o1, frz_o10, tru_l, tru_t, tru_b, tru_i, tru_n, List.eraseIdx_cons_zero, List.eraseIdx_cons_succ, exists_eq', exists_eq, shf_d, bck_d, toC_nil, toC_d, toC_o, ds_nil, ds_cons, dats_nil, dats_d, dat_d, dat_o0, dat_o1, dat_o2, startE, kg, cutE, cut1_d, cut1_n, cut1_o0, cut1_o1, zipA,
  dAdd_i, dI0_i, dMod_i, dFdiv_i, dPow_i, dLt_i, dLe_i, dGt_i, dGe_i, dLt_s, dLe_s, dGt_s, dGe_s, dEq_i, dEq_s, dEq_b, dEq_is, dEq_si, dEq_ni, dEq_in, dEq_sn, dEq_ns, dNe_i, dNe_s, dNe_b, dNe_is, dNe_si, dNe_ni, dNe_in, dIs_b, dIs_n, dIsNot_b, dIsNot_n, dIx_l, dIx_t, dSl_l, dSl_t, dEq_ti, dEq_li, D.isN, atI_0, atI_1, atI_2, atI_3, atI_4, atI_5, atI_map, map_int_inj, map_str_inj,
  fLen_t, fLen_l, fLen_s, fInt_i, fInt_b, fTup_l, fTup_t, fList_l, fList_t, fMax2_i, fMin2_i, fAbs_i, isi_int_int, isi_int_bool, isi_int_str, isi_int_tup, isi_int_lst, isi_bl_int, isi_bl_bool, isi_bl_str, isi_bl_tup, isi_str_int, isi_str_bool, isi_str_str, isi_str_tup, isi_tup_int, isi_tup_bool, isi_tup_str, isi_tup_tup, isi_lst_int, isi_lst_bool, isi_lst_str, isi_lst_tup, isi_lst_lst, isi_non_int, isi_non_bool, isi_non_str, isi_non_tup, items_t, items_l,
  List.getElem?_cons_zero, List.getElem?_cons_succ, List.set_cons_zero, List.set_cons_succ, List.map_cons, List.map_nil, List.length_cons, List.length_nil, List.cons_append, List.nil_append, List.append_nil, List.replicate_succ, List.replicate_zero, Nat.reduceAdd, Nat.reduceSub, List.head?_cons, List.tail_cons, List.take_succ_cons, List.take_zero, List.take_nil,
  Option.some.injEq, Option.map_some, Option.map_none, exists_eq_left', exists_eq_left, Rv.d.injEq, Rv.o.injEq, D.int.injEq, D.bl.injEq, D.str.injEq, D.tup.injEq, D.lst.injEq, MO.lst.injEq, List.cons.injEq, and_true, true_and, and_assoc, exists_and_left, decide_eq_true_eq, if_true, Bool.true_eq_false, Bool.false_eq_true, if_false, reduceIte, Bool.not_true, Bool.not_false, eq_self, exists_const, List.filterMap_cons_some, List.filterMap_nil, List.filterMap_cons, and_self, CMul_iff, or_true, true_or, Int.reduceLT, Int.reduceLE, Int.reduceToNat, Int.reduceNeg, Int.reduceSub, Int.reduceAdd, Int.reducePow, Nat.reducePow, Int.reduceMul, ixN_def, Int.cast_ofNat_Int, Int.reduceEq, decide_true, decide_false, dMul_i, dPow_i, strD, reduceCtorEq, ite_true, ite_false, Nat.reduceLT, Nat.reduceLeDiff, Int.reduceAbs, false_and, and_false, or_false, false_or, exists_false]
    refine ⟨n + 2 + (0 + i), t, 26, rfl, rfl, g1, by omega, by omega, fun k t3 k0 k1 ht3 => ?_⟩
    simp only [sSeq, sNil, sIf, sSet, sAsg, sPar, sPar3, sRet, sRetN, sExpr, sBreak, sCont, sSetIx, wVar, wC, wOp, wChain, wTb, wAnd, wOr, wNotT, wAndV, wOrV, wNotV, wIf, wNil, wCons, wTup, wLst, wLstO, wSl, wNoPart, wPart, wCB, wNeg, wOrT, wTruth, wJoin, wLc, sFor, wipeE, wKw, wYes, wCall, wCallO, wApp, iL, iT, iR1, iR2, iZ, iS, gN, gsNil, gsCons, gTn, endsOf, retR_d, retR_o, sFrz, frz_d, frz_o0, frz_o1, frz_o10, tru_l, tru_t, tru_b, tru_i, tru_n, List.eraseIdx_cons_zero, List.eraseIdx_cons_succ, exists_eq', exists_eq, shf_d, bck_d, toC_nil, toC_d, toC_o, ds_nil, ds_cons, dats_nil, dats_d, dat_d, dat_o0, dat_o1, dat_o2, startE, kg, cutE, cut1_d, cut1_n, cut1_o0, cut1_o1, zipA,
  dAdd_i, dI0_i, dMod_i, dFdiv_i, dPow_i, dLt_i, dLe_i, dGt_i, dGe_i, dLt_s, dLe_s, dGt_s, dGe_s, dEq_i, dEq_s, dEq_b, dEq_is, dEq_si, dEq_ni, dEq_in, dEq_sn, dEq_ns, dNe_i, dNe_s, dNe_b, dNe_is, dNe_si, dNe_ni, dNe_in, dIs_b, dIs_n, dIsNot_b, dIsNot_n, dIx_l, dIx_t, dSl_l, dSl_t, dEq_ti, dEq_li, D.isN, atI_0, atI_1, atI_2, atI_3, atI_4, atI_5, atI_map, map_int_inj, map_str_inj,
  fLen_t, fLen_l, fLen_s, fInt_i, fInt_b, fTup_l, fTup_t, fList_l, fList_t, fMax2_i, fMin2_i, fAbs_i, isi_int_int, isi_int_bool, isi_int_str, isi_int_tup, isi_int_lst, isi_bl_int, isi_bl_bool, isi_bl_str, isi_bl_tup, isi_str_int, isi_str_bool, isi_str_str, isi_str_tup, isi_tup_int, isi_tup_bool, isi_tup_str, isi_tup_tup, isi_lst_int, isi_lst_bool, isi_lst_str, isi_lst_tup, isi_lst_lst, isi_non_int, isi_non_bool, isi_non_str, isi_non_tup, items_t, items_l,
  List.getElem?_cons_zero, List.getElem?_cons_succ, List.set_cons_zero, List.set_cons_succ, List.map_cons, List.map_nil, List.length_cons, List.length_nil, List.cons_append, List.nil_append, List.append_nil, List.replicate_succ, List.replicate_zero, Nat.reduceAdd, Nat.reduceSub, List.head?_cons, List.tail_cons, List.take_succ_cons, List.take_zero, List.take_nil,
  Option.some.injEq, Option.map_some, Option.map_none, exists_eq_left', exists_eq_left, Rv.d.injEq, Rv.o.injEq, D.int.injEq, D.bl.injEq, D.str.injEq, D.tup.injEq, D.lst.injEq, MO.lst.injEq, List.cons.injEq, and_true, true_and, and_assoc, exists_and_left, decide_eq_true_eq, if_true, Bool.true_eq_false, Bool.false_eq_true, if_false, reduceIte, Bool.not_true, Bool.not_false, eq_self, exists_const, List.filterMap_cons_some, List.filterMap_nil, List.filterMap_cons, and_self, CMul_iff, or_true, true_or, Int.reduceLT, Int.reduceLE, Int.reduceToNat, Int.reduceNeg, Int.reduceSub, Int.reduceAdd, Int.reducePow, Nat.reducePow, Int.reduceMul, ixN_def, Int.cast_ofNat_Int, Int.reduceEq, decide_true, decide_false, dMul_i, dPow_i, strD, reduceCtorEq, ite_true, ite_false, Nat.reduceLT, Nat.reduceLeDiff, Int.reduceAbs, false_and, and_false, or_false, false_or, exists_false]
    have hlen : x.cps.toList.length = 26 := by rw [Array.length_toList]; exact hl
    obtain ⟨c, hc⟩ := atI_in (xs := x.cps.toList) k0 (by rw [hlen]; exact k1)
    have hcm := List.all_eq_true.mp hx c (atI_mem hc)
    have hcm := of_decide_eq_true hcm
    simp only [sSeq, sNil, sIf, sSet, sAsg, sPar, sPar3, sRet, sRetN, sExpr, sBreak, sCont, sSetIx, wVar, wC, wOp, wChain, wTb, wAnd, wOr, wNotT, wAndV, wOrV, wNotV, wIf, wNil, wCons, wTup, wLst, wLstO, wSl, wNoPart, wPart, wCB, wNeg, wOrT, wTruth, wJoin, wLc, sFor, wipeE, wKw, wYes, wCall, wCallO, wApp, iL, iT, iR1, iR2, iZ, iS, gN, gsNil, gsCons, gTn, endsOf, retR_d, retR_o, sFrz, frz_d, frz_o0, frz_o1, frz_o10, tru_l, tru_t, tru_b, tru_i, tru_n, List.eraseIdx_cons_zero, List.eraseIdx_cons_succ, exists_eq', exists_eq, shf_d, bck_d, toC_nil, toC_d, toC_o, ds_nil, ds_cons, dats_nil, dats_d, dat_d, dat_o0, dat_o1, dat_o2, startE, kg, cutE, cut1_d, cut1_n, cut1_o0, cut1_o1, zipA,
  dAdd_i, dI0_i, dMod_i, dFdiv_i, dPow_i, dLt_i, dLe_i, dGt_i, dGe_i, dLt_s, dLe_s, dGt_s, dGe_s, dEq_i, dEq_s, dEq_b, dEq_is, dEq_si, dEq_ni, dEq_in, dEq_sn, dEq_ns, dNe_i, dNe_s, dNe_b, dNe_is, dNe_si, dNe_ni, dNe_in, dIs_b, dIs_n, dIsNot_b, dIsNot_n, dIx_l, dIx_t, dSl_l, dSl_t, dEq_ti, dEq_li, D.isN, atI_0, atI_1, atI_2, atI_3, atI_4, atI_5, atI_map, map_int_inj, map_str_inj,
  fLen_t, fLen_l, fLen_s, fInt_i, fInt_b, fTup_l, fTup_t, fList_l, fList_t, fMax2_i, fMin2_i, fAbs_i, isi_int_int, isi_int_bool, isi_int_str, isi_int_tup, isi_int_lst, isi_bl_int, isi_bl_bool, isi_bl_str, isi_bl_tup, isi_str_int, isi_str_bool, isi_str_str, isi_str_tup, isi_tup_int, isi_tup_bool, isi_tup_str, isi_tup_tup, isi_lst_int, isi_lst_bool, isi_lst_str, isi_lst_tup, isi_lst_lst, isi_non_int, isi_non_bool, isi_non_str, isi_non_tup, items_t, items_l,
  List.getElem?_cons_zero, List.getElem?_cons_succ, List.set_cons_zero, List.set_cons_succ, List.map_cons, List.map_nil, List.length_cons, List.length_nil, List.cons_append, List.nil_append, List.append_nil, List.replicate_succ, List.replicate_zero, Nat.reduceAdd, Nat.reduceSub, List.head?_cons, List.tail_cons, List.take_succ_cons, List.take_zero, List.take_nil,
  Option.some.injEq, Option.map_some, Option.map_none, exists_eq_left', exists_eq_left, Rv.d.injEq, Rv.o.injEq, D.int.injEq, D.bl.injEq, D.str.injEq, D.tup.injEq, D.lst.injEq, MO.lst.injEq, List.cons.injEq, and_true, true_and, and_assoc, exists_and_left, decide_eq_true_eq, if_true, Bool.true_eq_false, Bool.false_eq_true, if_false, reduceIte, Bool.not_true, Bool.not_false, eq_self, exists_const, List.filterMap_cons_some, List.filterMap_nil, List.filterMap_cons, and_self, CMul_iff, or_true, true_or, Int.reduceLT, Int.reduceLE, Int.reduceToNat, Int.reduceNeg, Int.reduceSub, Int.reduceAdd, Int.reducePow, Nat.reducePow, Int.reduceMul, ixN_def, Int.cast_ofNat_Int, Int.reduceEq, decide_true, decide_false, dMul_i, dPow_i, strD, reduceCtorEq, ite_true, ite_false, Nat.reduceLT, Nat.reduceLeDiff, Int.reduceAbs, false_and, and_false, or_false, false_or, exists_false, dIx_s, if_pos (sz (n := x.length) (by omega)), hc]
    refine ⟨ys ++ [⟨#[c]⟩], by simp, ht3.mono (by omega), by simp; omega, fun y hy => ?_⟩
    rcases List.mem_append.mp hy with hy | hy
    · exact g3 y hy
    · exact ⟨c, by simpa using hy, hcm⟩
  · obtain ⟨ys, t, rfl, rfl, g1, g2, g3⟩ := hI
    rw [rng_len, Nat.zero_add] at g1 g2
    simp only [sSeq, sNil, sIf, sSet, sAsg, sPar, sPar3, sRet, sRetN, sExpr, sBreak, sCont, sSetIx, wVar, wC, wOp, wChain, wTb, wAnd, wOr, wNotT, wAndV, wOrV, wNotV, wIf, wNil, wCons, wTup, wLst, wLstO, wSl, wNoPart, wPart, wCB, wNeg, wOrT, wTruth, wJoin, wLc, sFor, wipeE, wKw, wYes, wCall, wCallO, wApp, iL, iT, iR1, iR2, iZ, iS, gN, gsNil, gsCons, gTn, endsOf, retR_d, retR_o, sFrz, frz_d, frz_o0, frz_o1, frz_o10, tru_l, tru_t, tru_b, tru_i, tru_n, List.eraseIdx_cons_zero, List.eraseIdx_cons_succ, exists_eq', exists_eq, shf_d, bck_d, toC_nil, toC_d, toC_o, ds_nil, ds_cons, dats_nil, dats_d, dat_d, dat_o0, dat_o1, dat_o2, startE, kg, cutE, cut1_d, cut1_n, cut1_o0, cut1_o1, zipA,
  dAdd_i, dI0_i, dMod_i, dFdiv_i, dPow_i, dLt_i, dLe_i, dGt_i, dGe_i, dLt_s, dLe_s, dGt_s, dGe_s, dEq_i, dEq_s, dEq_b, dEq_is, dEq_si, dEq_ni, dEq_in, dEq_sn, dEq_ns, dNe_i, dNe_s, dNe_b, dNe_is, dNe_si, dNe_ni, dNe_in, dIs_b, dIs_n, dIsNot_b, dIsNot_n, dIx_l, dIx_t, dSl_l, dSl_t, dEq_ti, dEq_li, D.isN, atI_0, atI_1, atI_2, atI_3, atI_4, atI_5, atI_map, map_int_inj, map_str_inj,
  fLen_t, fLen_l, fLen_s, fInt_i, fInt_b, fTup_l, fTup_t, fList_l, fList_t, fMax2_i, fMin2_i, fAbs_i, isi_int_int, isi_int_bool, isi_int_str, isi_int_tup, isi_int_lst, isi_bl_int, isi_bl_bool, isi_bl_str, isi_bl_tup, isi_str_int, isi_str_bool, isi_str_str, isi_str_tup, isi_tup_int, isi_tup_bool, isi_tup_str, isi_tup_tup, isi_lst_int, isi_lst_bool, isi_lst_str, isi_lst_tup, isi_lst_lst, isi_non_int, isi_non_bool, isi_non_str, isi_non_tup, items_t, items_l,
  List.getElem?_cons_zero, List.getElem?_cons_succ, List.set_cons_zero, List.set_cons_succ, List.map_cons, List.map_nil, List.length_cons, List.length_nil, List.cons_append, List.nil_append, List.append_nil, List.replicate_succ, List.replicate_zero, Nat.reduceAdd, Nat.reduceSub, List.head?_cons, List.tail_cons, List.take_succ_cons, List.take_zero, List.take_nil,
  Option.some.injEq, Option.map_some, Option.map_none, exists_eq_left', exists_eq_left, Rv.d.injEq, Rv.o.injEq, D.int.injEq, D.bl.injEq, D.str.injEq, D.tup.injEq, D.lst.injEq, MO.lst.injEq, List.cons.injEq, and_true, true_and, and_assoc, exists_and_left, decide_eq_true_eq, if_true, Bool.true_eq_false, Bool.false_eq_true, if_false, reduceIte, Bool.not_true, Bool.not_false, eq_self, exists_const, List.filterMap_cons_some, List.filterMap_nil, List.filterMap_cons, and_self, CMul_iff, or_true, true_or, Int.reduceLT, Int.reduceLE, Int.reduceToNat, Int.reduceNeg, Int.reduceSub, Int.reduceAdd, Int.reducePow, Nat.reducePow, Int.reduceMul, ixN_def, Int.cast_ofNat_Int, Int.reduceEq, decide_true, decide_false, dMul_i, dPow_i, strD, reduceCtorEq, ite_true, ite_false, Nat.reduceLT, Nat.reduceLeDiff, Int.reduceAbs, false_and, and_false, or_false, false_or, exists_false]
    have hj := join_one ys lo hi g3 (by omega)
    refine ⟨hj.2.2, ?_⟩
    exact h _ t (by rw [hj.1]; omega) (by rw [hj.1]; omega) hj.2.1 (g1.mono (by omega))
end Lk00
set_option Elab.async false
set_option linter.all false
set_option maxRecDepth 100000
set_option maxHeartbeats 4000000
namespace Lk00
open PySem PySem.Spec PyProof.Rows L2 Dw
def c__law_numbers : Ct := fun rs M R => ∃ (n : Nat) (tr : MO), rs = [.o 0] ∧ M = [tr] ∧ TrayOk n tr ∧ n + 22 ≤ 1000000 ∧ ∀ tr', TrayOk (n + 22) tr' → R (.d (.bl true)) [tr']
def oddN : List D := [.bl true, .bl false, .non, .str (Str.ofString ""), .str (Str.ofString "5"), .str (Str.ofString "a"), .str (Str.ofString "A"), .tup [], .tup [.int 5], .lst [.int 5], .lst [], .tup [.int 0, .int 1], .str (Str.ofString "-1"), .tup [.tup []], .int 1000000000000000000000000000000000000000000000000000000000000, .int (-1000000000000000000000000000000000000000000000000000000000000), .int 1001, .int (-1001)]
theorem oddN_ok : ∀ v ∈ oddN, Known v ∧ isThing v = false ∧ isTold v = false := by
  intro v hv
  simp only [oddN, List.mem_cons, List.not_mem_nil, or_false] at hv
  rcases hv with rfl | rfl | rfl | rfl | rfl | rfl | rfl | rfl | rfl | rfl | rfl | rfl | rfl | rfl | rfl | rfl | rfl | rfl <;> exact ⟨⟨_, rfl⟩, by decide, by decide⟩
theorem ln__law_numbers : ∀ rs M R, c__law_numbers rs M R → rs.length = 1 ∧ M.length = 1 := by
  rintro rs M R ⟨n, tr, rfl, rfl, _⟩; exact ⟨rfl, rfl⟩
set_option maxHeartbeats 8000000 in
theorem ok__law_numbers {P : Program} {w : World} {K : PySem.W.Frag} {mg : Str → Option Value} {base : Heap} (T : Tx K mg) : FnOk P w K mg base CX0 3 T.a__law_numbers T.fd__law_numbers ["tray"] (spD K c__law_numbers) := by
  refine fnD (n0 := 1) T.F__law_numbers sc__law_numbers ln__law_numbers fun cdv A outer s H E hr => ⟨_, (qss_cons (qs_for PassesOwn.never rfl (qi_range1 (by rfl) T.n_range (qa_cons qe_int qa_nil)) (qg_name (i := 1) sc__law_numbers.nd rfl (by first | exact .inl rfl | exact .inr rfl)) (qss_cons (qs_set (i := 2) sc__law_numbers.nd rfl (.inl rfl) (qe_add (qe_callO 0 (ok__law_thing T) (hr.mono (by decide)) (by rfl) T.g__law_thing T.F__law_thing.kp (b__law_thing T) (qa_cons (qv 0) qa_nil)) (qe_ix (qe_tup (qa_cons qe_int (qa_cons qe_int (qa_cons qe_int (qa_cons (qe_neg qe_int) qa_nil))))) (qe_callO 0 (ok__law_pick T) (hr.mono (by decide)) (by rfl) T.g__law_pick T.F__law_pick.kp (b__law_pick T) (qa_cons (qv 0) (qa_cons qe_int qa_nil)))))) (qss_cons (qs_set (i := 3) sc__law_numbers.nd rfl (.inl rfl) (qe_tup (qa_cons (qe_call (ok_is_thing T) (hr.mono (by decide)) (by rfl) T.g_is_thing T.F_is_thing.kp (b_is_thing T) (qa_cons (qv 2) qa_nil)) (qa_cons (qe_callK0 (ok_is_thing T) (hr.mono (by decide)) (by rfl) T.g_is_thing T.F_is_thing.kp (kb_is_thing_0_thing T) (qk_cons (qv 2) qk_nil)) (qa_cons (qe_call (ok_is_told_number T) (hr.mono (by decide)) (by rfl) T.g_is_told_number T.F_is_told_number.kp (b_is_told_number T) (qa_cons (qv 2) qa_nil)) (qa_cons (qe_callK0 (ok_is_told_number T) (hr.mono (by decide)) (by rfl) T.g_is_told_number T.F_is_told_number.kp (kb_is_told_number_0_thing T) (qk_cons (qv 2) qk_nil)) qa_nil)))))) (qss_cons (qs_par (i := 4) (j := 5) rfl sc__law_numbers.nd rfl rfl (by decide) rfl rfl (qa_cons (qe_chain or_le op2_le or_le op2_le (qe_neg qe_int) (qv 2) qe_int) (qa_cons (qe_chain or_le op2_le or_le op2_le qe_int (qv 2) qe_int) qa_nil)) (by rfl)) (qss_one (qs_for PassesOwn.never rfl (qi_range1 (by rfl) T.n_range (qa_cons qe_int qa_nil)) (qg_name (i := 6) sc__law_numbers.nd rfl (by first | exact .inl rfl | exact .inr rfl)) (qss_one (qs_if (qt_not (qt_val (qe_call (ok__law_same T) (hr.mono (by decide)) (by rfl) T.g__law_same T.F__law_same.kp (b__law_same T) (qa_cons (qe_ix (qv 3) (qv 6)) (qa_cons (qe_ix (qe_tup (qa_cons (qv 4) (qa_cons (qv 4) (qa_cons (qv 5) (qa_cons (qv 5) qa_nil))))) (qv 6)) qa_nil))))) (qss_one (qs_ret qe_bl)) qss_nil)))))))) (qss_cons (qs_set (i := 7) sc__law_numbers.nd rfl (.inl rfl) (qe_tup (qa_cons qe_bl (qa_cons qe_bl (qa_cons qe_non (qa_cons qe_str (qa_cons qe_str (qa_cons qe_str (qa_cons qe_str (qa_cons (qe_tup qa_nil) (qa_cons (qe_tup (qa_cons qe_int qa_nil)) (qa_cons (qe_lst (qa_cons qe_int qa_nil)) (qa_cons (qe_lst qa_nil) (qa_cons (qe_tup (qa_cons qe_int (qa_cons qe_int qa_nil))) (qa_cons qe_str (qa_cons (qe_tup (qa_cons (qe_tup qa_nil) qa_nil)) (qa_cons (qe_pow qe_int qe_int) (qa_cons (qe_neg (qe_pow qe_int qe_int)) (qa_cons qe_int (qa_cons (qe_neg qe_int) qa_nil)))))))))))))))))))) (qss_cons (qs_for PassesOwn.never rfl (qi_range1 (by rfl) T.n_range (qa_cons qe_int qa_nil)) (qg_name (i := 1) sc__law_numbers.nd rfl (by first | exact .inl rfl | exact .inr rfl)) (qss_cons (qs_set (i := 8) sc__law_numbers.nd rfl (.inl rfl) (qe_ix (qv 7) (qe_callO 0 (ok__law_pick T) (hr.mono (by decide)) (by rfl) T.g__law_pick T.F__law_pick.kp (b__law_pick T) (qa_cons (qv 0) (qa_cons qe_int qa_nil))))) (qss_one (qs_if (QW.t (qw_or (qt_not (qt_val (qe_call (ok__law_same T) (hr.mono (by decide)) (by rfl) T.g__law_same T.F__law_same.kp (b__law_same T) (qa_cons (qe_call (ok_is_thing T) (hr.mono (by decide)) (by rfl) T.g_is_thing T.F_is_thing.kp (b_is_thing T) (qa_cons (qv 8) qa_nil)) (qa_cons qe_bl qa_nil))))) (qw_or1 (qt_not (qt_val (qe_call (ok__law_same T) (hr.mono (by decide)) (by rfl) T.g__law_same T.F__law_same.kp (b__law_same T) (qa_cons (qe_call (ok_is_told_number T) (hr.mono (by decide)) (by rfl) T.g_is_told_number T.F_is_told_number.kp (b_is_told_number T) (qa_cons (qv 8) qa_nil)) (qa_cons qe_bl qa_nil)))))))) (qss_one (qs_ret qe_bl)) qss_nil)))) (qss_cons (qs_set (i := 9) sc__law_numbers.nd rfl (.inl rfl) (qe_lst (qa_cons (qe_call (ok_is_thing T) (hr.mono (by decide)) (by rfl) T.g_is_thing T.F_is_thing.kp (b_is_thing T) (qa_cons qe_int qa_nil)) (qa_cons (qe_call (ok_is_thing T) (hr.mono (by decide)) (by rfl) T.g_is_thing T.F_is_thing.kp (b_is_thing T) (qa_cons (qe_neg qe_int) qa_nil)) (qa_cons (qe_call (ok_is_told_number T) (hr.mono (by decide)) (by rfl) T.g_is_told_number T.F_is_told_number.kp (b_is_told_number T) (qa_cons qe_int qa_nil)) (qa_cons (qe_call (ok_is_told_number T) (hr.mono (by decide)) (by rfl) T.g_is_told_number T.F_is_told_number.kp (b_is_told_number T) (qa_cons qe_int qa_nil)) qa_nil)))))) (qss_cons (qs_set (i := 10) sc__law_numbers.nd rfl (.inl rfl) (qe_lst (qa_cons (qe_call (ok_is_told_number T) (hr.mono (by decide)) (by rfl) T.g_is_told_number T.F_is_told_number.kp (b_is_told_number T) (qa_cons qe_int qa_nil)) (qa_cons (qe_call (ok_is_told_number T) (hr.mono (by decide)) (by rfl) T.g_is_told_number T.F_is_told_number.kp (b_is_told_number T) (qa_cons (qe_neg qe_int) qa_nil)) (qa_cons (qe_call (ok_is_thing T) (hr.mono (by decide)) (by rfl) T.g_is_thing T.F_is_thing.kp (b_is_thing T) (qa_cons qe_bl qa_nil)) (qa_cons (qe_call (ok_is_told_number T) (hr.mono (by decide)) (by rfl) T.g_is_told_number T.F_is_told_number.kp (b_is_told_number T) (qa_cons qe_bl qa_nil)) qa_nil)))))) (qss_one (qs_ret (qe_and (qe_eq (u64 hr) (qe_lc rfl sc__law_numbers.nd (qi_list (qv 9)) (blkOk_by (own := [("one", 11)]) (N := ["tray", "lap", "number", "told", "inside", "small", "at", "odd", "thing", "bounds", "beyond", "one"]) (sc := defScope s__law_numbers) (by decide +kernel)) (by decide) (fun _ _ _ _ _ => (qg_name (i := 11) sc__law_numbers.nd rfl (by first | exact .inl rfl | exact .inr rfl))) (fun _ _ _ _ _ => (qts_one (qt_isNot (qv 11) qe_bl))) (fun _ _ _ _ _ => (qv 11))) (qe_lst qa_nil)) (qe_one (qe_eq (u64 hr) (qe_lc rfl sc__law_numbers.nd (qi_list (qv 10)) (blkOk_by (own := [("one", 11)]) (N := ["tray", "lap", "number", "told", "inside", "small", "at", "odd", "thing", "bounds", "beyond", "one"]) (sc := defScope s__law_numbers) (by decide +kernel)) (by decide) (fun _ _ _ _ _ => (qg_name (i := 11) sc__law_numbers.nd rfl (by first | exact .inl rfl | exact .inr rfl))) (fun _ _ _ _ _ => (qts_one (qt_isNot (qv 11) qe_bl))) (fun _ _ _ _ _ => (qv 11))) (qe_lst qa_nil))))))))))), fun rs M R h => ?_⟩
  obtain ⟨n, tr, rfl, rfl, ht, hn, h⟩ := h
  simp only [sSeq, sNil, sIf, sSet, sAsg, sPar, sPar3, sRet, sRetN, sExpr, sBreak, sCont, sSetIx, wVar, wC, wOp, wChain, wTb, wAnd, wOr, wNotT, wAndV, wOrV, wNotV, wIf, wNil, wCons, wTup, wLst, wLstO, wSl, wNoPart, wPart, wCB, wNeg, wOrT, wTruth, wJoin, wLc, sFor, wipeE, wKw, wYes, wCall, wCallO, wApp, iL, iT, iR1, iR2, iZ, iS, gN, gsNil, gsCons, gTn, endsOf, retR_d, retR_o, sFrz, frz_d, frz_o0, frz_o1, frz_o10, tru_l, tru_t, tru_b, tru_i, tru_n, List.eraseIdx_cons_zero, List.eraseIdx_cons_succ, exists_eq', exists_eq, shf_d, bck_d, toC_nil, toC_d, toC_o, ds_nil, ds_cons, dats_nil, dats_d, dat_d, dat_o0, dat_o1, dat_o2, startE, kg, cutE, cut1_d, cut1_n, cut1_o0, cut1_o1, zipA,
  dAdd_i, dI0_i, dMod_i, dFdiv_i, dPow_i, dLt_i, dLe_i, dGt_i, dGe_i, dLt_s, dLe_s, dGt_s, dGe_s, dEq_i, dEq_s, dEq_b, dEq_is, dEq_si, dEq_ni, dEq_in, dEq_sn, dEq_ns, dNe_i, dNe_s, dNe_b, dNe_is, dNe_si, dNe_ni, dNe_in, dIs_b, dIs_n, dIsNot_b, dIsNot_n, dIx_l, dIx_t, dSl_l, dSl_t, dEq_ti, dEq_li, D.isN, atI_0, atI_1, atI_2, atI_3, atI_4, atI_5, atI_map, map_int_inj, map_str_inj,
  fLen_t, fLen_l, fLen_s, fInt_i, fInt_b, fTup_l, fTup_t, fList_l, fList_t, fMax2_i, fMin2_i, fAbs_i, isi_int_int, isi_int_bool, isi_int_str, isi_int_tup, isi_int_lst, isi_bl_int, isi_bl_bool, isi_bl_str, isi_bl_tup, isi_str_int, isi_str_bool, isi_str_str, isi_str_tup, isi_tup_int, isi_tup_bool, isi_tup_str, isi_tup_tup, isi_lst_int, isi_lst_bool, isi_lst_str, isi_lst_tup, isi_lst_lst, isi_non_int, isi_non_bool, isi_non_str, isi_non_tup, items_t, items_l,
  List.getElem?_cons_zero, List.getElem?_cons_succ, List.set_cons_zero, List.set_cons_succ, List.map_cons, List.map_nil, List.length_cons, List.length_nil, List.cons_append, List.nil_append, List.append_nil, List.replicate_succ, List.replicate_zero, Nat.reduceAdd, Nat.reduceSub, List.head?_cons, List.tail_cons, List.take_succ_cons, List.take_zero, List.take_nil,
  Option.some.injEq, Option.map_some, Option.map_none, exists_eq_left', exists_eq_left, Rv.d.injEq, Rv.o.injEq, D.int.injEq, D.bl.injEq, D.str.injEq, D.tup.injEq, D.lst.injEq, MO.lst.injEq, List.cons.injEq, and_true, true_and, and_assoc, exists_and_left, decide_eq_true_eq, if_true, Bool.true_eq_false, Bool.false_eq_true, if_false, reduceIte, Bool.not_true, Bool.not_false, eq_self, exists_const, List.filterMap_cons_some, List.filterMap_nil, List.filterMap_cons, and_self, CMul_iff, or_true, true_or, Int.reduceLT, Int.reduceLE, Int.reduceToNat, Int.reduceNeg, Int.reduceSub, Int.reduceAdd, Int.reducePow, Nat.reducePow, Int.reduceMul, ixN_def, Int.cast_ofNat_Int, Int.reduceEq, decide_true, decide_false, dMul_i, dPow_i, strD, reduceCtorEq, ite_true, ite_false, Nat.reduceLT, Nat.reduceLeDiff, Int.reduceAbs, false_and, and_false, or_false, false_or, exists_false]
  refine for_0 (fun i env M => ∃ (t : MO) (e1 e2 e3 e4 e5 e6 e7 e8 e9 e10 e11 : Option Rv), env = [some (.o 0), e1, e2, e3, e4, e5, e6, e7, e8, e9, e10, e11] ∧ M = [t] ∧ TrayOk (n + 3 * i) t)
    ⟨tr, _, _, _, _, _, _, _, _, _, _, _, rfl, rfl, ht⟩ (fun i d env M hd hI => ?_) (fun env M hI => ?_)
  · obtain ⟨t, e1, e2, e3, e4, e5, e6, e7, e8, e9, e10, e11, rfl, rfl, g1⟩ := hI
    have hi6 := (rngD_get hd).1
    simp only [sSeq, sNil, sIf, sSet, sAsg, sPar, sPar3, sRet, sRetN, sExpr, sBreak, sCont, sSetIx, wVar, wC, wOp, wChain, wTb, wAnd, wOr, wNotT, wAndV, wOrV, wNotV, wIf, wNil, wCons, wTup, wLst, wLstO, wSl, wNoPart, wPart, wCB, wNeg, wOrT, wTruth, wJoin, wLc, sFor, wipeE, wKw, wYes, wCall, wCallO, wApp, iL, iT, iR1, iR2, iZ, iS, gN, gsNil, gsCons, gTn, endsOf, retR_d, retR_o, sFrz, frz_d, frz_o0, frz_o1, frz_o10, tru_l, tru_t, tru_b, tru_i, tru_n, List.eraseIdx_cons_zero, List.eraseIdx_cons_succ, exists_eq', exists_eq, shf_d, bck_d, toC_nil, toC_d, toC_o, ds_nil, ds_cons, dats_nil, dats_d, dat_d, dat_o0, dat_o1, dat_o2, startE, kg, cutE, cut1_d, cut1_n, cut1_o0, cut1_o1, zipA,
  dAdd_i, dI0_i, dMod_i, dFdiv_i, dPow_i, dLt_i, dLe_i, dGt_i, dGe_i, dLt_s, dLe_s, dGt_s, dGe_s, dEq_i, dEq_s, dEq_b, dEq_is, dEq_si, dEq_ni, dEq_in, dEq_sn, dEq_ns, dNe_i, dNe_s, dNe_b, dNe_is, dNe_si, dNe_ni, dNe_in, dIs_b, dIs_n, dIsNot_b, dIsNot_n, dIx_l, dIx_t, dSl_l, dSl_t, dEq_ti, dEq_li, D.isN, atI_0, atI_1, atI_2, atI_3, atI_4, atI_5, atI_map, map_int_inj, map_str_inj,
  fLen_t, fLen_l, fLen_s, fInt_i, fInt_b, fTup_l, fTup_t, fList_l, fList_t, fMax2_i, fMin2_i, fAbs_i, isi_int_int, isi_int_bool, isi_int_str, isi_int_tup, isi_int_lst, isi_bl_int, isi_bl_bool, isi_bl_str, isi_bl_tup, isi_str_int, isi_str_bool, isi_str_str, isi_str_tup, isi_tup_int, isi_tup_bool, isi_tup_str, isi_tup_tup, isi_lst_int, isi_lst_bool, isi_lst_str, isi_lst_tup, isi_lst_lst, isi_non_int, isi_non_bool, isi_non_str, isi_non_tup, items_t, items_l,
  List.getElem?_cons_zero, List.getElem?_cons_succ, List.set_cons_zero, List.set_cons_succ, List.map_cons, List.map_nil, List.length_cons, List.length_nil, List.cons_append, List.nil_append, List.append_nil, List.replicate_succ, List.replicate_zero, Nat.reduceAdd, Nat.reduceSub, List.head?_cons, List.tail_cons, List.take_succ_cons, List.take_zero, List.take_nil,
  Option.some.injEq, Option.map_some, Option.map_none, exists_eq_left', exists_eq_left, Rv.d.injEq, Rv.o.injEq, D.int.injEq, D.bl.injEq, D.str.injEq, D.tup.injEq, D.lst.injEq, MO.lst.injEq, List.cons.injEq, and_true, true_and, and_assoc, exists_and_left, decide_eq_true_eq, if_true, Bool.true_eq_false, Bool.false_eq_true, if_false, reduceIte, Bool.not_true, Bool.not_false, eq_self, exists_const, List.filterMap_cons_some, List.filterMap_nil, List.filterMap_cons, and_self, CMul_iff, or_true, true_or, Int.reduceLT, Int.reduceLE, Int.reduceToNat, Int.reduceNeg, Int.reduceSub, Int.reduceAdd, Int.reducePow, Nat.reducePow, Int.reduceMul, ixN_def, Int.cast_ofNat_Int, Int.reduceEq, decide_true, decide_false, dMul_i, dPow_i, strD, reduceCtorEq, ite_true, ite_false, Nat.reduceLT, Nat.reduceLeDiff, Int.reduceAbs, false_and, and_false, or_false, false_or, exists_false]
    refine ⟨n + 3 * i, t, rfl, rfl, g1, by omega, fun r t1 hr ht1 => ?_⟩
    simp only [sSeq, sNil, sIf, sSet, sAsg, sPar, sPar3, sRet, sRetN, sExpr, sBreak, sCont, sSetIx, wVar, wC, wOp, wChain, wTb, wAnd, wOr, wNotT, wAndV, wOrV, wNotV, wIf, wNil, wCons, wTup, wLst, wLstO, wSl, wNoPart, wPart, wCB, wNeg, wOrT, wTruth, wJoin, wLc, sFor, wipeE, wKw, wYes, wCall, wCallO, wApp, iL, iT, iR1, iR2, iZ, iS, gN, gsNil, gsCons, gTn, endsOf, retR_d, retR_o, sFrz, frz_d, frz_o0, frz_o1, frz_o10, tru_l, tru_t, tru_b, tru_i, tru_n, List.eraseIdx_cons_zero, List.eraseIdx_cons_succ, exists_eq', exists_eq, shf_d, bck_d, toC_nil, toC_d, toC_o, ds_nil, ds_cons, dats_nil, dats_d, dat_d, dat_o0, dat_o1, dat_o2, startE, kg, cutE, cut1_d, cut1_n, cut1_o0, cut1_o1, zipA,
  dAdd_i, dI0_i, dMod_i, dFdiv_i, dPow_i, dLt_i, dLe_i, dGt_i, dGe_i, dLt_s, dLe_s, dGt_s, dGe_s, dEq_i, dEq_s, dEq_b, dEq_is, dEq_si, dEq_ni, dEq_in, dEq_sn, dEq_ns, dNe_i, dNe_s, dNe_b, dNe_is, dNe_si, dNe_ni, dNe_in, dIs_b, dIs_n, dIsNot_b, dIsNot_n, dIx_l, dIx_t, dSl_l, dSl_t, dEq_ti, dEq_li, D.isN, atI_0, atI_1, atI_2, atI_3, atI_4, atI_5, atI_map, map_int_inj, map_str_inj,
  fLen_t, fLen_l, fLen_s, fInt_i, fInt_b, fTup_l, fTup_t, fList_l, fList_t, fMax2_i, fMin2_i, fAbs_i, isi_int_int, isi_int_bool, isi_int_str, isi_int_tup, isi_int_lst, isi_bl_int, isi_bl_bool, isi_bl_str, isi_bl_tup, isi_str_int, isi_str_bool, isi_str_str, isi_str_tup, isi_tup_int, isi_tup_bool, isi_tup_str, isi_tup_tup, isi_lst_int, isi_lst_bool, isi_lst_str, isi_lst_tup, isi_lst_lst, isi_non_int, isi_non_bool, isi_non_str, isi_non_tup, items_t, items_l,
  List.getElem?_cons_zero, List.getElem?_cons_succ, List.set_cons_zero, List.set_cons_succ, List.map_cons, List.map_nil, List.length_cons, List.length_nil, List.cons_append, List.nil_append, List.append_nil, List.replicate_succ, List.replicate_zero, Nat.reduceAdd, Nat.reduceSub, List.head?_cons, List.tail_cons, List.take_succ_cons, List.take_zero, List.take_nil,
  Option.some.injEq, Option.map_some, Option.map_none, exists_eq_left', exists_eq_left, Rv.d.injEq, Rv.o.injEq, D.int.injEq, D.bl.injEq, D.str.injEq, D.tup.injEq, D.lst.injEq, MO.lst.injEq, List.cons.injEq, and_true, true_and, and_assoc, exists_and_left, decide_eq_true_eq, if_true, Bool.true_eq_false, Bool.false_eq_true, if_false, reduceIte, Bool.not_true, Bool.not_false, eq_self, exists_const, List.filterMap_cons_some, List.filterMap_nil, List.filterMap_cons, and_self, CMul_iff, or_true, true_or, Int.reduceLT, Int.reduceLE, Int.reduceToNat, Int.reduceNeg, Int.reduceSub, Int.reduceAdd, Int.reducePow, Nat.reducePow, Int.reduceMul, ixN_def, Int.cast_ofNat_Int, Int.reduceEq, decide_true, decide_false, dMul_i, dPow_i, strD, reduceCtorEq, ite_true, ite_false, Nat.reduceLT, Nat.reduceLeDiff, Int.reduceAbs, false_and, and_false, or_false, false_or, exists_false]
    refine ⟨sz (by decide), n + 3 * i + 2, t1, 4, rfl, rfl, ht1, by omega, by omega, fun q t2 q0 q1 ht2 => ?_⟩
    simp only [sSeq, sNil, sIf, sSet, sAsg, sPar, sPar3, sRet, sRetN, sExpr, sBreak, sCont, sSetIx, wVar, wC, wOp, wChain, wTb, wAnd, wOr, wNotT, wAndV, wOrV, wNotV, wIf, wNil, wCons, wTup, wLst, wLstO, wSl, wNoPart, wPart, wCB, wNeg, wOrT, wTruth, wJoin, wLc, sFor, wipeE, wKw, wYes, wCall, wCallO, wApp, iL, iT, iR1, iR2, iZ, iS, gN, gsNil, gsCons, gTn, endsOf, retR_d, retR_o, sFrz, frz_d, frz_o0, frz_o1, frz_o10, tru_l, tru_t, tru_b, tru_i, tru_n, List.eraseIdx_cons_zero, List.eraseIdx_cons_succ, exists_eq', exists_eq, shf_d, bck_d, toC_nil, toC_d, toC_o, ds_nil, ds_cons, dats_nil, dats_d, dat_d, dat_o0, dat_o1, dat_o2, startE, kg, cutE, cut1_d, cut1_n, cut1_o0, cut1_o1, zipA,
  dAdd_i, dI0_i, dMod_i, dFdiv_i, dPow_i, dLt_i, dLe_i, dGt_i, dGe_i, dLt_s, dLe_s, dGt_s, dGe_s, dEq_i, dEq_s, dEq_b, dEq_is, dEq_si, dEq_ni, dEq_in, dEq_sn, dEq_ns, dNe_i, dNe_s, dNe_b, dNe_is, dNe_si, dNe_ni, dNe_in, dIs_b, dIs_n, dIsNot_b, dIsNot_n, dIx_l, dIx_t, dSl_l, dSl_t, dEq_ti, dEq_li, D.isN, atI_0, atI_1, atI_2, atI_3, atI_4, atI_5, atI_map, map_int_inj, map_str_inj,
  fLen_t, fLen_l, fLen_s, fInt_i, fInt_b, fTup_l, fTup_t, fList_l, fList_t, fMax2_i, fMin2_i, fAbs_i, isi_int_int, isi_int_bool, isi_int_str, isi_int_tup, isi_int_lst, isi_bl_int, isi_bl_bool, isi_bl_str, isi_bl_tup, isi_str_int, isi_str_bool, isi_str_str, isi_str_tup, isi_tup_int, isi_tup_bool, isi_tup_str, isi_tup_tup, isi_lst_int, isi_lst_bool, isi_lst_str, isi_lst_tup, isi_lst_lst, isi_non_int, isi_non_bool, isi_non_str, isi_non_tup, items_t, items_l,
  List.getElem?_cons_zero, List.getElem?_cons_succ, List.set_cons_zero, List.set_cons_succ, List.map_cons, List.map_nil, List.length_cons, List.length_nil, List.cons_append, List.nil_append, List.append_nil, List.replicate_succ, List.replicate_zero, Nat.reduceAdd, Nat.reduceSub, List.head?_cons, List.tail_cons, List.take_succ_cons, List.take_zero, List.take_nil,
  Option.some.injEq, Option.map_some, Option.map_none, exists_eq_left', exists_eq_left, Rv.d.injEq, Rv.o.injEq, D.int.injEq, D.bl.injEq, D.str.injEq, D.tup.injEq, D.lst.injEq, MO.lst.injEq, List.cons.injEq, and_true, true_and, and_assoc, exists_and_left, decide_eq_true_eq, if_true, Bool.true_eq_false, Bool.false_eq_true, if_false, reduceIte, Bool.not_true, Bool.not_false, eq_self, exists_const, List.filterMap_cons_some, List.filterMap_nil, List.filterMap_cons, and_self, CMul_iff, or_true, true_or, Int.reduceLT, Int.reduceLE, Int.reduceToNat, Int.reduceNeg, Int.reduceSub, Int.reduceAdd, Int.reducePow, Nat.reducePow, Int.reduceMul, ixN_def, Int.cast_ofNat_Int, Int.reduceEq, decide_true, decide_false, dMul_i, dPow_i, strD, reduceCtorEq, ite_true, ite_false, Nat.reduceLT, Nat.reduceLeDiff, Int.reduceAbs, false_and, and_false, or_false, false_or, exists_false, dIx_t]
    obtain ⟨v, hv⟩ := atI_in (xs := [D.int 0, .int 0, .int 1000, .int (-1000)]) q0 (by simpa using q1)
    obtain ⟨j, rfl⟩ : ∃ j, v = .int j := by
      have := atI_mem hv
      simp at this
      rcases this with rfl | rfl | rfl
      · exact ⟨_, rfl⟩
      · exact ⟨_, rfl⟩
      · exact ⟨_, rfl⟩
    by_cases h1 : -1000 ≤ r + j <;> by_cases h0 : 0 ≤ r + j <;> first
      | (exfalso; omega)
      | (simp only [sSeq, sNil, sIf, sSet, sAsg, sPar, sPar3, sRet, sRetN, sExpr, sBreak, sCont, sSetIx, wVar, wC, wOp, wChain, wTb, wAnd, wOr, wNotT, wAndV, wOrV, wNotV, wIf, wNil, wCons, wTup, wLst, wLstO, wSl, wNoPart, wPart, wCB, wNeg, wOrT, wTruth, wJoin, wLc, sFor, wipeE, wKw, wYes, wCall, wCallO, wApp, iL, iT, iR1, iR2, iZ, iS, gN, gsNil, gsCons, gTn, endsOf, retR_d, retR_o, sFrz, frz_d, frz_o0, frz_o1, frz_o10, tru_l, tru_t, tru_b, tru_i, tru_n, List.eraseIdx_cons_zero, List.eraseIdx_cons_succ, exists_eq', exists_eq, shf_d, bck_d, toC_nil, toC_d, toC_o, ds_nil, ds_cons, dats_nil, dats_d, dat_d, dat_o0, dat_o1, dat_o2, startE, kg, cutE, cut1_d, cut1_n, cut1_o0, cut1_o1, zipA,
  dAdd_i, dI0_i, dMod_i, dFdiv_i, dPow_i, dLt_i, dLe_i, dGt_i, dGe_i, dLt_s, dLe_s, dGt_s, dGe_s, dEq_i, dEq_s, dEq_b, dEq_is, dEq_si, dEq_ni, dEq_in, dEq_sn, dEq_ns, dNe_i, dNe_s, dNe_b, dNe_is, dNe_si, dNe_ni, dNe_in, dIs_b, dIs_n, dIsNot_b, dIsNot_n, dIx_l, dIx_t, dSl_l, dSl_t, dEq_ti, dEq_li, D.isN, atI_0, atI_1, atI_2, atI_3, atI_4, atI_5, atI_map, map_int_inj, map_str_inj,
  fLen_t, fLen_l, fLen_s, fInt_i, fInt_b, fTup_l, fTup_t, fList_l, fList_t, fMax2_i, fMin2_i, fAbs_i, isi_int_int, isi_int_bool, isi_int_str, isi_int_tup, isi_int_lst, isi_bl_int, isi_bl_bool, isi_bl_str, isi_bl_tup, isi_str_int, isi_str_bool, isi_str_str, isi_str_tup, isi_tup_int, isi_tup_bool, isi_tup_str, isi_tup_tup, isi_lst_int, isi_lst_bool, isi_lst_str, isi_lst_tup, isi_lst_lst, isi_non_int, isi_non_bool, isi_non_str, isi_non_tup, items_t, items_l,
  List.getElem?_cons_zero, List.getElem?_cons_succ, List.set_cons_zero, List.set_cons_succ, List.map_cons, List.map_nil, List.length_cons, List.length_nil, List.cons_append, List.nil_append, List.append_nil, List.replicate_succ, List.replicate_zero, Nat.reduceAdd, Nat.reduceSub, List.head?_cons, List.tail_cons, List.take_succ_cons, List.take_zero, List.take_nil,
  Option.some.injEq, Option.map_some, Option.map_none, exists_eq_left', exists_eq_left, Rv.d.injEq, Rv.o.injEq, D.int.injEq, D.bl.injEq, D.str.injEq, D.tup.injEq, D.lst.injEq, MO.lst.injEq, List.cons.injEq, and_true, true_and, and_assoc, exists_and_left, decide_eq_true_eq, if_true, Bool.true_eq_false, Bool.false_eq_true, if_false, reduceIte, Bool.not_true, Bool.not_false, eq_self, exists_const, List.filterMap_cons_some, List.filterMap_nil, List.filterMap_cons, and_self, CMul_iff, or_true, true_or, Int.reduceLT, Int.reduceLE, Int.reduceToNat, Int.reduceNeg, Int.reduceSub, Int.reduceAdd, Int.reducePow, Nat.reducePow, Int.reduceMul, ixN_def, Int.cast_ofNat_Int, Int.reduceEq, decide_true, decide_false, dMul_i, dPow_i, strD, reduceCtorEq, ite_true, ite_false, Nat.reduceLT, Nat.reduceLeDiff, Int.reduceAbs, false_and, and_false, or_false, false_or, exists_false, hv, c_is_thing, c_is_told_number, isThing, isTold, h1, h0, true_and, false_and, show rngD 0 4 = [.int 0, .int 1, .int 2, .int 3] from rfl]
         refine ⟨known_i _, known_i _, known_i _, known_i _, sz (by decide), for_cons ?_⟩
         simp only [sSeq, sNil, sIf, sSet, sAsg, sPar, sPar3, sRet, sRetN, sExpr, sBreak, sCont, sSetIx, wVar, wC, wOp, wChain, wTb, wAnd, wOr, wNotT, wAndV, wOrV, wNotV, wIf, wNil, wCons, wTup, wLst, wLstO, wSl, wNoPart, wPart, wCB, wNeg, wOrT, wTruth, wJoin, wLc, sFor, wipeE, wKw, wYes, wCall, wCallO, wApp, iL, iT, iR1, iR2, iZ, iS, gN, gsNil, gsCons, gTn, endsOf, retR_d, retR_o, sFrz, frz_d, frz_o0, frz_o1, frz_o10, tru_l, tru_t, tru_b, tru_i, tru_n, List.eraseIdx_cons_zero, List.eraseIdx_cons_succ, exists_eq', exists_eq, shf_d, bck_d, toC_nil, toC_d, toC_o, ds_nil, ds_cons, dats_nil, dats_d, dat_d, dat_o0, dat_o1, dat_o2, startE, kg, cutE, cut1_d, cut1_n, cut1_o0, cut1_o1, zipA,
  dAdd_i, dI0_i, dMod_i, dFdiv_i, dPow_i, dLt_i, dLe_i, dGt_i, dGe_i, dLt_s, dLe_s, dGt_s, dGe_s, dEq_i, dEq_s, dEq_b, dEq_is, dEq_si, dEq_ni, dEq_in, dEq_sn, dEq_ns, dNe_i, dNe_s, dNe_b, dNe_is, dNe_si, dNe_ni, dNe_in, dIs_b, dIs_n, dIsNot_b, dIsNot_n, dIx_l, dIx_t, dSl_l, dSl_t, dEq_ti, dEq_li, D.isN, atI_0, atI_1, atI_2, atI_3, atI_4, atI_5, atI_map, map_int_inj, map_str_inj,
  fLen_t, fLen_l, fLen_s, fInt_i, fInt_b, fTup_l, fTup_t, fList_l, fList_t, fMax2_i, fMin2_i, fAbs_i, isi_int_int, isi_int_bool, isi_int_str, isi_int_tup, isi_int_lst, isi_bl_int, isi_bl_bool, isi_bl_str, isi_bl_tup, isi_str_int, isi_str_bool, isi_str_str, isi_str_tup, isi_tup_int, isi_tup_bool, isi_tup_str, isi_tup_tup, isi_lst_int, isi_lst_bool, isi_lst_str, isi_lst_tup, isi_lst_lst, isi_non_int, isi_non_bool, isi_non_str, isi_non_tup, items_t, items_l,
  List.getElem?_cons_zero, List.getElem?_cons_succ, List.set_cons_zero, List.set_cons_succ, List.map_cons, List.map_nil, List.length_cons, List.length_nil, List.cons_append, List.nil_append, List.append_nil, List.replicate_succ, List.replicate_zero, Nat.reduceAdd, Nat.reduceSub, List.head?_cons, List.tail_cons, List.take_succ_cons, List.take_zero, List.take_nil,
  Option.some.injEq, Option.map_some, Option.map_none, exists_eq_left', exists_eq_left, Rv.d.injEq, Rv.o.injEq, D.int.injEq, D.bl.injEq, D.str.injEq, D.tup.injEq, D.lst.injEq, MO.lst.injEq, List.cons.injEq, and_true, true_and, and_assoc, exists_and_left, decide_eq_true_eq, if_true, Bool.true_eq_false, Bool.false_eq_true, if_false, reduceIte, Bool.not_true, Bool.not_false, eq_self, exists_const, List.filterMap_cons_some, List.filterMap_nil, List.filterMap_cons, and_self, CMul_iff, or_true, true_or, Int.reduceLT, Int.reduceLE, Int.reduceToNat, Int.reduceNeg, Int.reduceSub, Int.reduceAdd, Int.reducePow, Nat.reducePow, Int.reduceMul, ixN_def, Int.cast_ofNat_Int, Int.reduceEq, decide_true, decide_false, dMul_i, dPow_i, strD, reduceCtorEq, ite_true, ite_false, Nat.reduceLT, Nat.reduceLeDiff, Int.reduceAbs, false_and, and_false, or_false, false_or, exists_false, c__law_same]
         refine ⟨sz (by decide), same_b _, for_cons ?_⟩
         simp only [sSeq, sNil, sIf, sSet, sAsg, sPar, sPar3, sRet, sRetN, sExpr, sBreak, sCont, sSetIx, wVar, wC, wOp, wChain, wTb, wAnd, wOr, wNotT, wAndV, wOrV, wNotV, wIf, wNil, wCons, wTup, wLst, wLstO, wSl, wNoPart, wPart, wCB, wNeg, wOrT, wTruth, wJoin, wLc, sFor, wipeE, wKw, wYes, wCall, wCallO, wApp, iL, iT, iR1, iR2, iZ, iS, gN, gsNil, gsCons, gTn, endsOf, retR_d, retR_o, sFrz, frz_d, frz_o0, frz_o1, frz_o10, tru_l, tru_t, tru_b, tru_i, tru_n, List.eraseIdx_cons_zero, List.eraseIdx_cons_succ, exists_eq', exists_eq, shf_d, bck_d, toC_nil, toC_d, toC_o, ds_nil, ds_cons, dats_nil, dats_d, dat_d, dat_o0, dat_o1, dat_o2, startE, kg, cutE, cut1_d, cut1_n, cut1_o0, cut1_o1, zipA,
  dAdd_i, dI0_i, dMod_i, dFdiv_i, dPow_i, dLt_i, dLe_i, dGt_i, dGe_i, dLt_s, dLe_s, dGt_s, dGe_s, dEq_i, dEq_s, dEq_b, dEq_is, dEq_si, dEq_ni, dEq_in, dEq_sn, dEq_ns, dNe_i, dNe_s, dNe_b, dNe_is, dNe_si, dNe_ni, dNe_in, dIs_b, dIs_n, dIsNot_b, dIsNot_n, dIx_l, dIx_t, dSl_l, dSl_t, dEq_ti, dEq_li, D.isN, atI_0, atI_1, atI_2, atI_3, atI_4, atI_5, atI_map, map_int_inj, map_str_inj,
  fLen_t, fLen_l, fLen_s, fInt_i, fInt_b, fTup_l, fTup_t, fList_l, fList_t, fMax2_i, fMin2_i, fAbs_i, isi_int_int, isi_int_bool, isi_int_str, isi_int_tup, isi_int_lst, isi_bl_int, isi_bl_bool, isi_bl_str, isi_bl_tup, isi_str_int, isi_str_bool, isi_str_str, isi_str_tup, isi_tup_int, isi_tup_bool, isi_tup_str, isi_tup_tup, isi_lst_int, isi_lst_bool, isi_lst_str, isi_lst_tup, isi_lst_lst, isi_non_int, isi_non_bool, isi_non_str, isi_non_tup, items_t, items_l,
  List.getElem?_cons_zero, List.getElem?_cons_succ, List.set_cons_zero, List.set_cons_succ, List.map_cons, List.map_nil, List.length_cons, List.length_nil, List.cons_append, List.nil_append, List.append_nil, List.replicate_succ, List.replicate_zero, Nat.reduceAdd, Nat.reduceSub, List.head?_cons, List.tail_cons, List.take_succ_cons, List.take_zero, List.take_nil,
  Option.some.injEq, Option.map_some, Option.map_none, exists_eq_left', exists_eq_left, Rv.d.injEq, Rv.o.injEq, D.int.injEq, D.bl.injEq, D.str.injEq, D.tup.injEq, D.lst.injEq, MO.lst.injEq, List.cons.injEq, and_true, true_and, and_assoc, exists_and_left, decide_eq_true_eq, if_true, Bool.true_eq_false, Bool.false_eq_true, if_false, reduceIte, Bool.not_true, Bool.not_false, eq_self, exists_const, List.filterMap_cons_some, List.filterMap_nil, List.filterMap_cons, and_self, CMul_iff, or_true, true_or, Int.reduceLT, Int.reduceLE, Int.reduceToNat, Int.reduceNeg, Int.reduceSub, Int.reduceAdd, Int.reducePow, Nat.reducePow, Int.reduceMul, ixN_def, Int.cast_ofNat_Int, Int.reduceEq, decide_true, decide_false, dMul_i, dPow_i, strD, reduceCtorEq, ite_true, ite_false, Nat.reduceLT, Nat.reduceLeDiff, Int.reduceAbs, false_and, and_false, or_false, false_or, exists_false, c__law_same]
         refine ⟨sz (by decide), same_b _, for_cons ?_⟩
         simp only [sSeq, sNil, sIf, sSet, sAsg, sPar, sPar3, sRet, sRetN, sExpr, sBreak, sCont, sSetIx, wVar, wC, wOp, wChain, wTb, wAnd, wOr, wNotT, wAndV, wOrV, wNotV, wIf, wNil, wCons, wTup, wLst, wLstO, wSl, wNoPart, wPart, wCB, wNeg, wOrT, wTruth, wJoin, wLc, sFor, wipeE, wKw, wYes, wCall, wCallO, wApp, iL, iT, iR1, iR2, iZ, iS, gN, gsNil, gsCons, gTn, endsOf, retR_d, retR_o, sFrz, frz_d, frz_o0, frz_o1, frz_o10, tru_l, tru_t, tru_b, tru_i, tru_n, List.eraseIdx_cons_zero, List.eraseIdx_cons_succ, exists_eq', exists_eq, shf_d, bck_d, toC_nil, toC_d, toC_o, ds_nil, ds_cons, dats_nil, dats_d, dat_d, dat_o0, dat_o1, dat_o2, startE, kg, cutE, cut1_d, cut1_n, cut1_o0, cut1_o1, zipA,
  dAdd_i, dI0_i, dMod_i, dFdiv_i, dPow_i, dLt_i, dLe_i, dGt_i, dGe_i, dLt_s, dLe_s, dGt_s, dGe_s, dEq_i, dEq_s, dEq_b, dEq_is, dEq_si, dEq_ni, dEq_in, dEq_sn, dEq_ns, dNe_i, dNe_s, dNe_b, dNe_is, dNe_si, dNe_ni, dNe_in, dIs_b, dIs_n, dIsNot_b, dIsNot_n, dIx_l, dIx_t, dSl_l, dSl_t, dEq_ti, dEq_li, D.isN, atI_0, atI_1, atI_2, atI_3, atI_4, atI_5, atI_map, map_int_inj, map_str_inj,
  fLen_t, fLen_l, fLen_s, fInt_i, fInt_b, fTup_l, fTup_t, fList_l, fList_t, fMax2_i, fMin2_i, fAbs_i, isi_int_int, isi_int_bool, isi_int_str, isi_int_tup, isi_int_lst, isi_bl_int, isi_bl_bool, isi_bl_str, isi_bl_tup, isi_str_int, isi_str_bool, isi_str_str, isi_str_tup, isi_tup_int, isi_tup_bool, isi_tup_str, isi_tup_tup, isi_lst_int, isi_lst_bool, isi_lst_str, isi_lst_tup, isi_lst_lst, isi_non_int, isi_non_bool, isi_non_str, isi_non_tup, items_t, items_l,
  List.getElem?_cons_zero, List.getElem?_cons_succ, List.set_cons_zero, List.set_cons_succ, List.map_cons, List.map_nil, List.length_cons, List.length_nil, List.cons_append, List.nil_append, List.append_nil, List.replicate_succ, List.replicate_zero, Nat.reduceAdd, Nat.reduceSub, List.head?_cons, List.tail_cons, List.take_succ_cons, List.take_zero, List.take_nil,
  Option.some.injEq, Option.map_some, Option.map_none, exists_eq_left', exists_eq_left, Rv.d.injEq, Rv.o.injEq, D.int.injEq, D.bl.injEq, D.str.injEq, D.tup.injEq, D.lst.injEq, MO.lst.injEq, List.cons.injEq, and_true, true_and, and_assoc, exists_and_left, decide_eq_true_eq, if_true, Bool.true_eq_false, Bool.false_eq_true, if_false, reduceIte, Bool.not_true, Bool.not_false, eq_self, exists_const, List.filterMap_cons_some, List.filterMap_nil, List.filterMap_cons, and_self, CMul_iff, or_true, true_or, Int.reduceLT, Int.reduceLE, Int.reduceToNat, Int.reduceNeg, Int.reduceSub, Int.reduceAdd, Int.reducePow, Nat.reducePow, Int.reduceMul, ixN_def, Int.cast_ofNat_Int, Int.reduceEq, decide_true, decide_false, dMul_i, dPow_i, strD, reduceCtorEq, ite_true, ite_false, Nat.reduceLT, Nat.reduceLeDiff, Int.reduceAbs, false_and, and_false, or_false, false_or, exists_false, c__law_same]
         refine ⟨sz (by decide), same_b _, for_cons ?_⟩
         simp only [sSeq, sNil, sIf, sSet, sAsg, sPar, sPar3, sRet, sRetN, sExpr, sBreak, sCont, sSetIx, wVar, wC, wOp, wChain, wTb, wAnd, wOr, wNotT, wAndV, wOrV, wNotV, wIf, wNil, wCons, wTup, wLst, wLstO, wSl, wNoPart, wPart, wCB, wNeg, wOrT, wTruth, wJoin, wLc, sFor, wipeE, wKw, wYes, wCall, wCallO, wApp, iL, iT, iR1, iR2, iZ, iS, gN, gsNil, gsCons, gTn, endsOf, retR_d, retR_o, sFrz, frz_d, frz_o0, frz_o1, frz_o10, tru_l, tru_t, tru_b, tru_i, tru_n, List.eraseIdx_cons_zero, List.eraseIdx_cons_succ, exists_eq', exists_eq, shf_d, bck_d, toC_nil, toC_d, toC_o, ds_nil, ds_cons, dats_nil, dats_d, dat_d, dat_o0, dat_o1, dat_o2, startE, kg, cutE, cut1_d, cut1_n, cut1_o0, cut1_o1, zipA,
  dAdd_i, dI0_i, dMod_i, dFdiv_i, dPow_i, dLt_i, dLe_i, dGt_i, dGe_i, dLt_s, dLe_s, dGt_s, dGe_s, dEq_i, dEq_s, dEq_b, dEq_is, dEq_si, dEq_ni, dEq_in, dEq_sn, dEq_ns, dNe_i, dNe_s, dNe_b, dNe_is, dNe_si, dNe_ni, dNe_in, dIs_b, dIs_n, dIsNot_b, dIsNot_n, dIx_l, dIx_t, dSl_l, dSl_t, dEq_ti, dEq_li, D.isN, atI_0, atI_1, atI_2, atI_3, atI_4, atI_5, atI_map, map_int_inj, map_str_inj,
  fLen_t, fLen_l, fLen_s, fInt_i, fInt_b, fTup_l, fTup_t, fList_l, fList_t, fMax2_i, fMin2_i, fAbs_i, isi_int_int, isi_int_bool, isi_int_str, isi_int_tup, isi_int_lst, isi_bl_int, isi_bl_bool, isi_bl_str, isi_bl_tup, isi_str_int, isi_str_bool, isi_str_str, isi_str_tup, isi_tup_int, isi_tup_bool, isi_tup_str, isi_tup_tup, isi_lst_int, isi_lst_bool, isi_lst_str, isi_lst_tup, isi_lst_lst, isi_non_int, isi_non_bool, isi_non_str, isi_non_tup, items_t, items_l,
  List.getElem?_cons_zero, List.getElem?_cons_succ, List.set_cons_zero, List.set_cons_succ, List.map_cons, List.map_nil, List.length_cons, List.length_nil, List.cons_append, List.nil_append, List.append_nil, List.replicate_succ, List.replicate_zero, Nat.reduceAdd, Nat.reduceSub, List.head?_cons, List.tail_cons, List.take_succ_cons, List.take_zero, List.take_nil,
  Option.some.injEq, Option.map_some, Option.map_none, exists_eq_left', exists_eq_left, Rv.d.injEq, Rv.o.injEq, D.int.injEq, D.bl.injEq, D.str.injEq, D.tup.injEq, D.lst.injEq, MO.lst.injEq, List.cons.injEq, and_true, true_and, and_assoc, exists_and_left, decide_eq_true_eq, if_true, Bool.true_eq_false, Bool.false_eq_true, if_false, reduceIte, Bool.not_true, Bool.not_false, eq_self, exists_const, List.filterMap_cons_some, List.filterMap_nil, List.filterMap_cons, and_self, CMul_iff, or_true, true_or, Int.reduceLT, Int.reduceLE, Int.reduceToNat, Int.reduceNeg, Int.reduceSub, Int.reduceAdd, Int.reducePow, Nat.reducePow, Int.reduceMul, ixN_def, Int.cast_ofNat_Int, Int.reduceEq, decide_true, decide_false, dMul_i, dPow_i, strD, reduceCtorEq, ite_true, ite_false, Nat.reduceLT, Nat.reduceLeDiff, Int.reduceAbs, false_and, and_false, or_false, false_or, exists_false, c__law_same]
         refine ⟨sz (by decide), same_b _, for_nil ?_⟩
         simp only [sSeq, sNil, sIf, sSet, sAsg, sPar, sPar3, sRet, sRetN, sExpr, sBreak, sCont, sSetIx, wVar, wC, wOp, wChain, wTb, wAnd, wOr, wNotT, wAndV, wOrV, wNotV, wIf, wNil, wCons, wTup, wLst, wLstO, wSl, wNoPart, wPart, wCB, wNeg, wOrT, wTruth, wJoin, wLc, sFor, wipeE, wKw, wYes, wCall, wCallO, wApp, iL, iT, iR1, iR2, iZ, iS, gN, gsNil, gsCons, gTn, endsOf, retR_d, retR_o, sFrz, frz_d, frz_o0, frz_o1, frz_o10, tru_l, tru_t, tru_b, tru_i, tru_n, List.eraseIdx_cons_zero, List.eraseIdx_cons_succ, exists_eq', exists_eq, shf_d, bck_d, toC_nil, toC_d, toC_o, ds_nil, ds_cons, dats_nil, dats_d, dat_d, dat_o0, dat_o1, dat_o2, startE, kg, cutE, cut1_d, cut1_n, cut1_o0, cut1_o1, zipA,
  dAdd_i, dI0_i, dMod_i, dFdiv_i, dPow_i, dLt_i, dLe_i, dGt_i, dGe_i, dLt_s, dLe_s, dGt_s, dGe_s, dEq_i, dEq_s, dEq_b, dEq_is, dEq_si, dEq_ni, dEq_in, dEq_sn, dEq_ns, dNe_i, dNe_s, dNe_b, dNe_is, dNe_si, dNe_ni, dNe_in, dIs_b, dIs_n, dIsNot_b, dIsNot_n, dIx_l, dIx_t, dSl_l, dSl_t, dEq_ti, dEq_li, D.isN, atI_0, atI_1, atI_2, atI_3, atI_4, atI_5, atI_map, map_int_inj, map_str_inj,
  fLen_t, fLen_l, fLen_s, fInt_i, fInt_b, fTup_l, fTup_t, fList_l, fList_t, fMax2_i, fMin2_i, fAbs_i, isi_int_int, isi_int_bool, isi_int_str, isi_int_tup, isi_int_lst, isi_bl_int, isi_bl_bool, isi_bl_str, isi_bl_tup, isi_str_int, isi_str_bool, isi_str_str, isi_str_tup, isi_tup_int, isi_tup_bool, isi_tup_str, isi_tup_tup, isi_lst_int, isi_lst_bool, isi_lst_str, isi_lst_tup, isi_lst_lst, isi_non_int, isi_non_bool, isi_non_str, isi_non_tup, items_t, items_l,
  List.getElem?_cons_zero, List.getElem?_cons_succ, List.set_cons_zero, List.set_cons_succ, List.map_cons, List.map_nil, List.length_cons, List.length_nil, List.cons_append, List.nil_append, List.append_nil, List.replicate_succ, List.replicate_zero, Nat.reduceAdd, Nat.reduceSub, List.head?_cons, List.tail_cons, List.take_succ_cons, List.take_zero, List.take_nil,
  Option.some.injEq, Option.map_some, Option.map_none, exists_eq_left', exists_eq_left, Rv.d.injEq, Rv.o.injEq, D.int.injEq, D.bl.injEq, D.str.injEq, D.tup.injEq, D.lst.injEq, MO.lst.injEq, List.cons.injEq, and_true, true_and, and_assoc, exists_and_left, decide_eq_true_eq, if_true, Bool.true_eq_false, Bool.false_eq_true, if_false, reduceIte, Bool.not_true, Bool.not_false, eq_self, exists_const, List.filterMap_cons_some, List.filterMap_nil, List.filterMap_cons, and_self, CMul_iff, or_true, true_or, Int.reduceLT, Int.reduceLE, Int.reduceToNat, Int.reduceNeg, Int.reduceSub, Int.reduceAdd, Int.reducePow, Nat.reducePow, Int.reduceMul, ixN_def, Int.cast_ofNat_Int, Int.reduceEq, decide_true, decide_false, dMul_i, dPow_i, strD, reduceCtorEq, ite_true, ite_false, Nat.reduceLT, Nat.reduceLeDiff, Int.reduceAbs, false_and, and_false, or_false, false_or, exists_false]
         exact ht2.mono (by omega))
  · obtain ⟨t, e1, e2, e3, e4, e5, e6, e7, e8, e9, e10, e11, rfl, rfl, g1⟩ := hI
    rw [rng_len] at g1
    simp only [sSeq, sNil, sIf, sSet, sAsg, sPar, sPar3, sRet, sRetN, sExpr, sBreak, sCont, sSetIx, wVar, wC, wOp, wChain, wTb, wAnd, wOr, wNotT, wAndV, wOrV, wNotV, wIf, wNil, wCons, wTup, wLst, wLstO, wSl, wNoPart, wPart, wCB, wNeg, wOrT, wTruth, wJoin, wLc, sFor, wipeE, wKw, wYes, wCall, wCallO, wApp, iL, iT, iR1, iR2, iZ, iS, gN, gsNil, gsCons, gTn, endsOf, retR_d, retR_o, sFrz, frz_d, frz_o0, frz_o1, frz_o10, tru_l, tru_t, tru_b, tru_i, tru_n, List.eraseIdx_cons_zero, List.eraseIdx_cons_succ, exists_eq', exists_eq, shf_d, bck_d, toC_nil, toC_d, toC_o, ds_nil, ds_cons, dats_nil, dats_d, dat_d, dat_o0, dat_o1, dat_o2, startE, kg, cutE, cut1_d, cut1_n, cut1_o0, cut1_o1, zipA,
  dAdd_i, dI0_i, dMod_i, dFdiv_i, dPow_i, dLt_i, dLe_i, dGt_i, dGe_i, dLt_s, dLe_s, dGt_s, dGe_s, dEq_i, dEq_s, dEq_b, dEq_is, dEq_si, dEq_ni, dEq_in, dEq_sn, dEq_ns, dNe_i, dNe_s, dNe_b, dNe_is, dNe_si, dNe_ni, dNe_in, dIs_b, dIs_n, dIsNot_b, dIsNot_n, dIx_l, dIx_t, dSl_l, dSl_t, dEq_ti, dEq_li, D.isN, atI_0, atI_1, atI_2, atI_3, atI_4, atI_5, atI_map, map_int_inj, map_str_inj,
  fLen_t, fLen_l, fLen_s, fInt_i, fInt_b, fTup_l, fTup_t, fList_l, fList_t, fMax2_i, fMin2_i, fAbs_i, isi_int_int, isi_int_bool, isi_int_str, isi_int_tup, isi_int_lst, isi_bl_int, isi_bl_bool, isi_bl_str, isi_bl_tup, isi_str_int, isi_str_bool, isi_str_str, isi_str_tup, isi_tup_int, isi_tup_bool, isi_tup_str, isi_tup_tup, isi_lst_int, isi_lst_bool, isi_lst_str, isi_lst_tup, isi_lst_lst, isi_non_int, isi_non_bool, isi_non_str, isi_non_tup, items_t, items_l,
  List.getElem?_cons_zero, List.getElem?_cons_succ, List.set_cons_zero, List.set_cons_succ, List.map_cons, List.map_nil, List.length_cons, List.length_nil, List.cons_append, List.nil_append, List.append_nil, List.replicate_succ, List.replicate_zero, Nat.reduceAdd, Nat.reduceSub, List.head?_cons, List.tail_cons, List.take_succ_cons, List.take_zero, List.take_nil,
  Option.some.injEq, Option.map_some, Option.map_none, exists_eq_left', exists_eq_left, Rv.d.injEq, Rv.o.injEq, D.int.injEq, D.bl.injEq, D.str.injEq, D.tup.injEq, D.lst.injEq, MO.lst.injEq, List.cons.injEq, and_true, true_and, and_assoc, exists_and_left, decide_eq_true_eq, if_true, Bool.true_eq_false, Bool.false_eq_true, if_false, reduceIte, Bool.not_true, Bool.not_false, eq_self, exists_const, List.filterMap_cons_some, List.filterMap_nil, List.filterMap_cons, and_self, CMul_iff, or_true, true_or, Int.reduceLT, Int.reduceLE, Int.reduceToNat, Int.reduceNeg, Int.reduceSub, Int.reduceAdd, Int.reducePow, Nat.reducePow, Int.reduceMul, ixN_def, Int.cast_ofNat_Int, Int.reduceEq, decide_true, decide_false, dMul_i, dPow_i, strD, reduceCtorEq, ite_true, ite_false, Nat.reduceLT, Nat.reduceLeDiff, Int.reduceAbs, false_and, and_false, or_false, false_or, exists_false]
    refine ⟨sz (by decide), sz (by decide), sz (by decide), sz (by decide), sz (by decide), sz (by decide), sz (by decide), sz (by decide), ?_⟩
    refine for_0 (fun i env M => ∃ (t : MO) (e1 e2 e3 e4 e5 e6 e8 e9 e10 e11 : Option Rv), env = [some (.o 0), e1, e2, e3, e4, e5, e6, some (.d (.tup oddN)), e8, e9, e10, e11] ∧ M = [t] ∧ TrayOk (n + 18 + i) t)
      ⟨t, _, _, _, _, _, _, _, _, _, _, rfl, rfl, g1⟩ (fun i d env M hd hI => ?_) (fun env M hI => ?_)
    · obtain ⟨t, e1, e2, e3, e4, e5, e6, e8, e9, e10, e11, rfl, rfl, g1⟩ := hI
      have hi6 := (rngD_get hd).1
      simp only [sSeq, sNil, sIf, sSet, sAsg, sPar, sPar3, sRet, sRetN, sExpr, sBreak, sCont, sSetIx, wVar, wC, wOp, wChain, wTb, wAnd, wOr, wNotT, wAndV, wOrV, wNotV, wIf, wNil, wCons, wTup, wLst, wLstO, wSl, wNoPart, wPart, wCB, wNeg, wOrT, wTruth, wJoin, wLc, sFor, wipeE, wKw, wYes, wCall, wCallO, wApp, iL, iT, iR1, iR2, iZ, iS, gN, gsNil, gsCons, gTn, endsOf, retR_d, retR_o, sFrz, frz_d, frz_o0, frz_o1, frz_o10, tru_l, tru_t, tru_b, tru_i, tru_n, List.eraseIdx_cons_zero, List.eraseIdx_cons_succ, exists_eq', exists_eq, shf_d, bck_d, toC_nil, toC_d, toC_o, ds_nil, ds_cons, dats_nil, dats_d, dat_d, dat_o0, dat_o1, dat_o2, startE, kg, cutE, cut1_d, cut1_n, cut1_o0, cut1_o1, zipA,
  dAdd_i, dI0_i, dMod_i, dFdiv_i, dPow_i, dLt_i, dLe_i, dGt_i, dGe_i, dLt_s, dLe_s, dGt_s, dGe_s, dEq_i, dEq_s, dEq_b, dEq_is, dEq_si, dEq_ni, dEq_in, dEq_sn, dEq_ns, dNe_i, dNe_s, dNe_b, dNe_is, dNe_si, dNe_ni, dNe_in, dIs_b, dIs_n, dIsNot_b, dIsNot_n, dIx_l, dIx_t, dSl_l, dSl_t, dEq_ti, dEq_li, D.isN, atI_0, atI_1, atI_2, atI_3, atI_4, atI_5, atI_map, map_int_inj, map_str_inj,
  fLen_t, fLen_l, fLen_s, fInt_i, fInt_b, fTup_l, fTup_t, fList_l, fList_t, fMax2_i, fMin2_i, fAbs_i, isi_int_int, isi_int_bool, isi_int_str, isi_int_tup, isi_int_lst, isi_bl_int, isi_bl_bool, isi_bl_str, isi_bl_tup, isi_str_int, isi_str_bool, isi_str_str, isi_str_tup, isi_tup_int, isi_tup_bool, isi_tup_str, isi_tup_tup, isi_lst_int, isi_lst_bool, isi_lst_str, isi_lst_tup, isi_lst_lst, isi_non_int, isi_non_bool, isi_non_str, isi_non_tup, items_t, items_l,
  List.getElem?_cons_zero, List.getElem?_cons_succ, List.set_cons_zero, List.set_cons_succ, List.map_cons, List.map_nil, List.length_cons, List.length_nil, List.cons_append, List.nil_append, List.append_nil, List.replicate_succ, List.replicate_zero, Nat.reduceAdd, Nat.reduceSub, List.head?_cons, List.tail_cons, List.take_succ_cons, List.take_zero, List.take_nil,
  Option.some.injEq, Option.map_some, Option.map_none, exists_eq_left', exists_eq_left, Rv.d.injEq, Rv.o.injEq, D.int.injEq, D.bl.injEq, D.str.injEq, D.tup.injEq, D.lst.injEq, MO.lst.injEq, List.cons.injEq, and_true, true_and, and_assoc, exists_and_left, decide_eq_true_eq, if_true, Bool.true_eq_false, Bool.false_eq_true, if_false, reduceIte, Bool.not_true, Bool.not_false, eq_self, exists_const, List.filterMap_cons_some, List.filterMap_nil, List.filterMap_cons, and_self, CMul_iff, or_true, true_or, Int.reduceLT, Int.reduceLE, Int.reduceToNat, Int.reduceNeg, Int.reduceSub, Int.reduceAdd, Int.reducePow, Nat.reducePow, Int.reduceMul, ixN_def, Int.cast_ofNat_Int, Int.reduceEq, decide_true, decide_false, dMul_i, dPow_i, strD, reduceCtorEq, ite_true, ite_false, Nat.reduceLT, Nat.reduceLeDiff, Int.reduceAbs, false_and, and_false, or_false, false_or, exists_false]
      refine ⟨n + 18 + i, t, 18, rfl, rfl, g1, by omega, by omega, fun q t1 q0 q1 ht1 => ?_⟩
      simp only [sSeq, sNil, sIf, sSet, sAsg, sPar, sPar3, sRet, sRetN, sExpr, sBreak, sCont, sSetIx, wVar, wC, wOp, wChain, wTb, wAnd, wOr, wNotT, wAndV, wOrV, wNotV, wIf, wNil, wCons, wTup, wLst, wLstO, wSl, wNoPart, wPart, wCB, wNeg, wOrT, wTruth, wJoin, wLc, sFor, wipeE, wKw, wYes, wCall, wCallO, wApp, iL, iT, iR1, iR2, iZ, iS, gN, gsNil, gsCons, gTn, endsOf, retR_d, retR_o, sFrz, frz_d, frz_o0, frz_o1, frz_o10, tru_l, tru_t, tru_b, tru_i, tru_n, List.eraseIdx_cons_zero, List.eraseIdx_cons_succ, exists_eq', exists_eq, shf_d, bck_d, toC_nil, toC_d, toC_o, ds_nil, ds_cons, dats_nil, dats_d, dat_d, dat_o0, dat_o1, dat_o2, startE, kg, cutE, cut1_d, cut1_n, cut1_o0, cut1_o1, zipA,
  dAdd_i, dI0_i, dMod_i, dFdiv_i, dPow_i, dLt_i, dLe_i, dGt_i, dGe_i, dLt_s, dLe_s, dGt_s, dGe_s, dEq_i, dEq_s, dEq_b, dEq_is, dEq_si, dEq_ni, dEq_in, dEq_sn, dEq_ns, dNe_i, dNe_s, dNe_b, dNe_is, dNe_si, dNe_ni, dNe_in, dIs_b, dIs_n, dIsNot_b, dIsNot_n, dIx_l, dIx_t, dSl_l, dSl_t, dEq_ti, dEq_li, D.isN, atI_0, atI_1, atI_2, atI_3, atI_4, atI_5, atI_map, map_int_inj, map_str_inj,
  fLen_t, fLen_l, fLen_s, fInt_i, fInt_b, fTup_l, fTup_t, fList_l, fList_t, fMax2_i, fMin2_i, fAbs_i, isi_int_int, isi_int_bool, isi_int_str, isi_int_tup, isi_int_lst, isi_bl_int, isi_bl_bool, isi_bl_str, isi_bl_tup, isi_str_int, isi_str_bool, isi_str_str, isi_str_tup, isi_tup_int, isi_tup_bool, isi_tup_str, isi_tup_tup, isi_lst_int, isi_lst_bool, isi_lst_str, isi_lst_tup, isi_lst_lst, isi_non_int, isi_non_bool, isi_non_str, isi_non_tup, items_t, items_l,
  List.getElem?_cons_zero, List.getElem?_cons_succ, List.set_cons_zero, List.set_cons_succ, List.map_cons, List.map_nil, List.length_cons, List.length_nil, List.cons_append, List.nil_append, List.append_nil, List.replicate_succ, List.replicate_zero, Nat.reduceAdd, Nat.reduceSub, List.head?_cons, List.tail_cons, List.take_succ_cons, List.take_zero, List.take_nil,
  Option.some.injEq, Option.map_some, Option.map_none, exists_eq_left', exists_eq_left, Rv.d.injEq, Rv.o.injEq, D.int.injEq, D.bl.injEq, D.str.injEq, D.tup.injEq, D.lst.injEq, MO.lst.injEq, List.cons.injEq, and_true, true_and, and_assoc, exists_and_left, decide_eq_true_eq, if_true, Bool.true_eq_false, Bool.false_eq_true, if_false, reduceIte, Bool.not_true, Bool.not_false, eq_self, exists_const, List.filterMap_cons_some, List.filterMap_nil, List.filterMap_cons, and_self, CMul_iff, or_true, true_or, Int.reduceLT, Int.reduceLE, Int.reduceToNat, Int.reduceNeg, Int.reduceSub, Int.reduceAdd, Int.reducePow, Nat.reducePow, Int.reduceMul, ixN_def, Int.cast_ofNat_Int, Int.reduceEq, decide_true, decide_false, dMul_i, dPow_i, strD, reduceCtorEq, ite_true, ite_false, Nat.reduceLT, Nat.reduceLeDiff, Int.reduceAbs, false_and, and_false, or_false, false_or, exists_false, dIx_t]
      obtain ⟨v, hv⟩ := atI_in (xs := oddN) q0 (by simpa [oddN] using q1)
      obtain ⟨k1, k2, k3⟩ := oddN_ok v (atI_mem hv)
      simp only [sSeq, sNil, sIf, sSet, sAsg, sPar, sPar3, sRet, sRetN, sExpr, sBreak, sCont, sSetIx, wVar, wC, wOp, wChain, wTb, wAnd, wOr, wNotT, wAndV, wOrV, wNotV, wIf, wNil, wCons, wTup, wLst, wLstO, wSl, wNoPart, wPart, wCB, wNeg, wOrT, wTruth, wJoin, wLc, sFor, wipeE, wKw, wYes, wCall, wCallO, wApp, iL, iT, iR1, iR2, iZ, iS, gN, gsNil, gsCons, gTn, endsOf, retR_d, retR_o, sFrz, frz_d, frz_o0, frz_o1, frz_o10, tru_l, tru_t, tru_b, tru_i, tru_n, List.eraseIdx_cons_zero, List.eraseIdx_cons_succ, exists_eq', exists_eq, shf_d, bck_d, toC_nil, toC_d, toC_o, ds_nil, ds_cons, dats_nil, dats_d, dat_d, dat_o0, dat_o1, dat_o2, startE, kg, cutE, cut1_d, cut1_n, cut1_o0, cut1_o1, zipA,
  dAdd_i, dI0_i, dMod_i, dFdiv_i, dPow_i, dLt_i, dLe_i, dGt_i, dGe_i, dLt_s, dLe_s, dGt_s, dGe_s, dEq_i, dEq_s, dEq_b, dEq_is, dEq_si, dEq_ni, dEq_in, dEq_sn, dEq_ns, dNe_i, dNe_s, dNe_b, dNe_is, dNe_si, dNe_ni, dNe_in, dIs_b, dIs_n, dIsNot_b, dIsNot_n, dIx_l, dIx_t, dSl_l, dSl_t, dEq_ti, dEq_li, D.isN, atI_0, atI_1, atI_2, atI_3, atI_4, atI_5, atI_map, map_int_inj, map_str_inj,
  fLen_t, fLen_l, fLen_s, fInt_i, fInt_b, fTup_l, fTup_t, fList_l, fList_t, fMax2_i, fMin2_i, fAbs_i, isi_int_int, isi_int_bool, isi_int_str, isi_int_tup, isi_int_lst, isi_bl_int, isi_bl_bool, isi_bl_str, isi_bl_tup, isi_str_int, isi_str_bool, isi_str_str, isi_str_tup, isi_tup_int, isi_tup_bool, isi_tup_str, isi_tup_tup, isi_lst_int, isi_lst_bool, isi_lst_str, isi_lst_tup, isi_lst_lst, isi_non_int, isi_non_bool, isi_non_str, isi_non_tup, items_t, items_l,
  List.getElem?_cons_zero, List.getElem?_cons_succ, List.set_cons_zero, List.set_cons_succ, List.map_cons, List.map_nil, List.length_cons, List.length_nil, List.cons_append, List.nil_append, List.append_nil, List.replicate_succ, List.replicate_zero, Nat.reduceAdd, Nat.reduceSub, List.head?_cons, List.tail_cons, List.take_succ_cons, List.take_zero, List.take_nil,
  Option.some.injEq, Option.map_some, Option.map_none, exists_eq_left', exists_eq_left, Rv.d.injEq, Rv.o.injEq, D.int.injEq, D.bl.injEq, D.str.injEq, D.tup.injEq, D.lst.injEq, MO.lst.injEq, List.cons.injEq, and_true, true_and, and_assoc, exists_and_left, decide_eq_true_eq, if_true, Bool.true_eq_false, Bool.false_eq_true, if_false, reduceIte, Bool.not_true, Bool.not_false, eq_self, exists_const, List.filterMap_cons_some, List.filterMap_nil, List.filterMap_cons, and_self, CMul_iff, or_true, true_or, Int.reduceLT, Int.reduceLE, Int.reduceToNat, Int.reduceNeg, Int.reduceSub, Int.reduceAdd, Int.reducePow, Nat.reducePow, Int.reduceMul, ixN_def, Int.cast_ofNat_Int, Int.reduceEq, decide_true, decide_false, dMul_i, dPow_i, strD, reduceCtorEq, ite_true, ite_false, Nat.reduceLT, Nat.reduceLeDiff, Int.reduceAbs, false_and, and_false, or_false, false_or, exists_false, hv, c_is_thing, c_is_told_number, c__law_same, k2, k3]
      exact ⟨k1, same_b _, k1, same_b _, ht1.mono (by omega)⟩
    · obtain ⟨t, e1, e2, e3, e4, e5, e6, e8, e9, e10, e11, rfl, rfl, g1⟩ := hI
      simp only [sSeq, sNil, sIf, sSet, sAsg, sPar, sPar3, sRet, sRetN, sExpr, sBreak, sCont, sSetIx, wVar, wC, wOp, wChain, wTb, wAnd, wOr, wNotT, wAndV, wOrV, wNotV, wIf, wNil, wCons, wTup, wLst, wLstO, wSl, wNoPart, wPart, wCB, wNeg, wOrT, wTruth, wJoin, wLc, sFor, wipeE, wKw, wYes, wCall, wCallO, wApp, iL, iT, iR1, iR2, iZ, iS, gN, gsNil, gsCons, gTn, endsOf, retR_d, retR_o, sFrz, frz_d, frz_o0, frz_o1, frz_o10, tru_l, tru_t, tru_b, tru_i, tru_n, List.eraseIdx_cons_zero, List.eraseIdx_cons_succ, exists_eq', exists_eq, shf_d, bck_d, toC_nil, toC_d, toC_o, ds_nil, ds_cons, dats_nil, dats_d, dat_d, dat_o0, dat_o1, dat_o2, startE, kg, cutE, cut1_d, cut1_n, cut1_o0, cut1_o1, zipA,
  dAdd_i, dI0_i, dMod_i, dFdiv_i, dPow_i, dLt_i, dLe_i, dGt_i, dGe_i, dLt_s, dLe_s, dGt_s, dGe_s, dEq_i, dEq_s, dEq_b, dEq_is, dEq_si, dEq_ni, dEq_in, dEq_sn, dEq_ns, dNe_i, dNe_s, dNe_b, dNe_is, dNe_si, dNe_ni, dNe_in, dIs_b, dIs_n, dIsNot_b, dIsNot_n, dIx_l, dIx_t, dSl_l, dSl_t, dEq_ti, dEq_li, D.isN, atI_0, atI_1, atI_2, atI_3, atI_4, atI_5, atI_map, map_int_inj, map_str_inj,
  fLen_t, fLen_l, fLen_s, fInt_i, fInt_b, fTup_l, fTup_t, fList_l, fList_t, fMax2_i, fMin2_i, fAbs_i, isi_int_int, isi_int_bool, isi_int_str, isi_int_tup, isi_int_lst, isi_bl_int, isi_bl_bool, isi_bl_str, isi_bl_tup, isi_str_int, isi_str_bool, isi_str_str, isi_str_tup, isi_tup_int, isi_tup_bool, isi_tup_str, isi_tup_tup, isi_lst_int, isi_lst_bool, isi_lst_str, isi_lst_tup, isi_lst_lst, isi_non_int, isi_non_bool, isi_non_str, isi_non_tup, items_t, items_l,
  List.getElem?_cons_zero, List.getElem?_cons_succ, List.set_cons_zero, List.set_cons_succ, List.map_cons, List.map_nil, List.length_cons, List.length_nil, List.cons_append, List.nil_append, List.append_nil, List.replicate_succ, List.replicate_zero, Nat.reduceAdd, Nat.reduceSub, List.head?_cons, List.tail_cons, List.take_succ_cons, List.take_zero, List.take_nil,
  Option.some.injEq, Option.map_some, Option.map_none, exists_eq_left', exists_eq_left, Rv.d.injEq, Rv.o.injEq, D.int.injEq, D.bl.injEq, D.str.injEq, D.tup.injEq, D.lst.injEq, MO.lst.injEq, List.cons.injEq, and_true, true_and, and_assoc, exists_and_left, decide_eq_true_eq, if_true, Bool.true_eq_false, Bool.false_eq_true, if_false, reduceIte, Bool.not_true, Bool.not_false, eq_self, exists_const, List.filterMap_cons_some, List.filterMap_nil, List.filterMap_cons, and_self, CMul_iff, or_true, true_or, Int.reduceLT, Int.reduceLE, Int.reduceToNat, Int.reduceNeg, Int.reduceSub, Int.reduceAdd, Int.reducePow, Nat.reducePow, Int.reduceMul, ixN_def, Int.cast_ofNat_Int, Int.reduceEq, decide_true, decide_false, dMul_i, dPow_i, strD, reduceCtorEq, ite_true, ite_false, Nat.reduceLT, Nat.reduceLeDiff, Int.reduceAbs, false_and, and_false, or_false, false_or, exists_false, c_is_thing, c_is_told_number, isThing, isTold]
      have e0 : dEq (D.lst []) (D.lst []) = some (.bl true) := dEq_ok rfl rfl rfl
      refine ⟨known_i _, known_i _, known_i _, known_i _, sz (by decide), known_i _, known_i _, ⟨_, rfl⟩, ⟨_, rfl⟩, sz (by decide), sz (by decide), lc_cons ?_⟩
      simp only [sSeq, sNil, sIf, sSet, sAsg, sPar, sPar3, sRet, sRetN, sExpr, sBreak, sCont, sSetIx, wVar, wC, wOp, wChain, wTb, wAnd, wOr, wNotT, wAndV, wOrV, wNotV, wIf, wNil, wCons, wTup, wLst, wLstO, wSl, wNoPart, wPart, wCB, wNeg, wOrT, wTruth, wJoin, wLc, sFor, wipeE, wKw, wYes, wCall, wCallO, wApp, iL, iT, iR1, iR2, iZ, iS, gN, gsNil, gsCons, gTn, endsOf, retR_d, retR_o, sFrz, frz_d, frz_o0, frz_o1, frz_o10, tru_l, tru_t, tru_b, tru_i, tru_n, List.eraseIdx_cons_zero, List.eraseIdx_cons_succ, exists_eq', exists_eq, shf_d, bck_d, toC_nil, toC_d, toC_o, ds_nil, ds_cons, dats_nil, dats_d, dat_d, dat_o0, dat_o1, dat_o2, startE, kg, cutE, cut1_d, cut1_n, cut1_o0, cut1_o1, zipA,
  dAdd_i, dI0_i, dMod_i, dFdiv_i, dPow_i, dLt_i, dLe_i, dGt_i, dGe_i, dLt_s, dLe_s, dGt_s, dGe_s, dEq_i, dEq_s, dEq_b, dEq_is, dEq_si, dEq_ni, dEq_in, dEq_sn, dEq_ns, dNe_i, dNe_s, dNe_b, dNe_is, dNe_si, dNe_ni, dNe_in, dIs_b, dIs_n, dIsNot_b, dIsNot_n, dIx_l, dIx_t, dSl_l, dSl_t, dEq_ti, dEq_li, D.isN, atI_0, atI_1, atI_2, atI_3, atI_4, atI_5, atI_map, map_int_inj, map_str_inj,
  fLen_t, fLen_l, fLen_s, fInt_i, fInt_b, fTup_l, fTup_t, fList_l, fList_t, fMax2_i, fMin2_i, fAbs_i, isi_int_int, isi_int_bool, isi_int_str, isi_int_tup, isi_int_lst, isi_bl_int, isi_bl_bool, isi_bl_str, isi_bl_tup, isi_str_int, isi_str_bool, isi_str_str, isi_str_tup, isi_tup_int, isi_tup_bool, isi_tup_str, isi_tup_tup, isi_lst_int, isi_lst_bool, isi_lst_str, isi_lst_tup, isi_lst_lst, isi_non_int, isi_non_bool, isi_non_str, isi_non_tup, items_t, items_l,
  List.getElem?_cons_zero, List.getElem?_cons_succ, List.set_cons_zero, List.set_cons_succ, List.map_cons, List.map_nil, List.length_cons, List.length_nil, List.cons_append, List.nil_append, List.append_nil, List.replicate_succ, List.replicate_zero, Nat.reduceAdd, Nat.reduceSub, List.head?_cons, List.tail_cons, List.take_succ_cons, List.take_zero, List.take_nil,
  Option.some.injEq, Option.map_some, Option.map_none, exists_eq_left', exists_eq_left, Rv.d.injEq, Rv.o.injEq, D.int.injEq, D.bl.injEq, D.str.injEq, D.tup.injEq, D.lst.injEq, MO.lst.injEq, List.cons.injEq, and_true, true_and, and_assoc, exists_and_left, decide_eq_true_eq, if_true, Bool.true_eq_false, Bool.false_eq_true, if_false, reduceIte, Bool.not_true, Bool.not_false, eq_self, exists_const, List.filterMap_cons_some, List.filterMap_nil, List.filterMap_cons, and_self, CMul_iff, or_true, true_or, Int.reduceLT, Int.reduceLE, Int.reduceToNat, Int.reduceNeg, Int.reduceSub, Int.reduceAdd, Int.reducePow, Nat.reducePow, Int.reduceMul, ixN_def, Int.cast_ofNat_Int, Int.reduceEq, decide_true, decide_false, dMul_i, dPow_i, strD, reduceCtorEq, ite_true, ite_false, Nat.reduceLT, Nat.reduceLeDiff, Int.reduceAbs, false_and, and_false, or_false, false_or, exists_false]
      refine lc_cons ?_
      simp only [sSeq, sNil, sIf, sSet, sAsg, sPar, sPar3, sRet, sRetN, sExpr, sBreak, sCont, sSetIx, wVar, wC, wOp, wChain, wTb, wAnd, wOr, wNotT, wAndV, wOrV, wNotV, wIf, wNil, wCons, wTup, wLst, wLstO, wSl, wNoPart, wPart, wCB, wNeg, wOrT, wTruth, wJoin, wLc, sFor, wipeE, wKw, wYes, wCall, wCallO, wApp, iL, iT, iR1, iR2, iZ, iS, gN, gsNil, gsCons, gTn, endsOf, retR_d, retR_o, sFrz, frz_d, frz_o0, frz_o1, frz_o10, tru_l, tru_t, tru_b, tru_i, tru_n, List.eraseIdx_cons_zero, List.eraseIdx_cons_succ, exists_eq', exists_eq, shf_d, bck_d, toC_nil, toC_d, toC_o, ds_nil, ds_cons, dats_nil, dats_d, dat_d, dat_o0, dat_o1, dat_o2, startE, kg, cutE, cut1_d, cut1_n, cut1_o0, cut1_o1, zipA,
  dAdd_i, dI0_i, dMod_i, dFdiv_i, dPow_i, dLt_i, dLe_i, dGt_i, dGe_i, dLt_s, dLe_s, dGt_s, dGe_s, dEq_i, dEq_s, dEq_b, dEq_is, dEq_si, dEq_ni, dEq_in, dEq_sn, dEq_ns, dNe_i, dNe_s, dNe_b, dNe_is, dNe_si, dNe_ni, dNe_in, dIs_b, dIs_n, dIsNot_b, dIsNot_n, dIx_l, dIx_t, dSl_l, dSl_t, dEq_ti, dEq_li, D.isN, atI_0, atI_1, atI_2, atI_3, atI_4, atI_5, atI_map, map_int_inj, map_str_inj,
  fLen_t, fLen_l, fLen_s, fInt_i, fInt_b, fTup_l, fTup_t, fList_l, fList_t, fMax2_i, fMin2_i, fAbs_i, isi_int_int, isi_int_bool, isi_int_str, isi_int_tup, isi_int_lst, isi_bl_int, isi_bl_bool, isi_bl_str, isi_bl_tup, isi_str_int, isi_str_bool, isi_str_str, isi_str_tup, isi_tup_int, isi_tup_bool, isi_tup_str, isi_tup_tup, isi_lst_int, isi_lst_bool, isi_lst_str, isi_lst_tup, isi_lst_lst, isi_non_int, isi_non_bool, isi_non_str, isi_non_tup, items_t, items_l,
  List.getElem?_cons_zero, List.getElem?_cons_succ, List.set_cons_zero, List.set_cons_succ, List.map_cons, List.map_nil, List.length_cons, List.length_nil, List.cons_append, List.nil_append, List.append_nil, List.replicate_succ, List.replicate_zero, Nat.reduceAdd, Nat.reduceSub, List.head?_cons, List.tail_cons, List.take_succ_cons, List.take_zero, List.take_nil,
  Option.some.injEq, Option.map_some, Option.map_none, exists_eq_left', exists_eq_left, Rv.d.injEq, Rv.o.injEq, D.int.injEq, D.bl.injEq, D.str.injEq, D.tup.injEq, D.lst.injEq, MO.lst.injEq, List.cons.injEq, and_true, true_and, and_assoc, exists_and_left, decide_eq_true_eq, if_true, Bool.true_eq_false, Bool.false_eq_true, if_false, reduceIte, Bool.not_true, Bool.not_false, eq_self, exists_const, List.filterMap_cons_some, List.filterMap_nil, List.filterMap_cons, and_self, CMul_iff, or_true, true_or, Int.reduceLT, Int.reduceLE, Int.reduceToNat, Int.reduceNeg, Int.reduceSub, Int.reduceAdd, Int.reducePow, Nat.reducePow, Int.reduceMul, ixN_def, Int.cast_ofNat_Int, Int.reduceEq, decide_true, decide_false, dMul_i, dPow_i, strD, reduceCtorEq, ite_true, ite_false, Nat.reduceLT, Nat.reduceLeDiff, Int.reduceAbs, false_and, and_false, or_false, false_or, exists_false]
      refine lc_cons ?_
      simp only [sSeq, sNil, sIf, sSet, sAsg, sPar, sPar3, sRet, sRetN, sExpr, sBreak, sCont, sSetIx, wVar, wC, wOp, wChain, wTb, wAnd, wOr, wNotT, wAndV, wOrV, wNotV, wIf, wNil, wCons, wTup, wLst, wLstO, wSl, wNoPart, wPart, wCB, wNeg, wOrT, wTruth, wJoin, wLc, sFor, wipeE, wKw, wYes, wCall, wCallO, wApp, iL, iT, iR1, iR2, iZ, iS, gN, gsNil, gsCons, gTn, endsOf, retR_d, retR_o, sFrz, frz_d, frz_o0, frz_o1, frz_o10, tru_l, tru_t, tru_b, tru_i, tru_n, List.eraseIdx_cons_zero, List.eraseIdx_cons_succ, exists_eq', exists_eq, shf_d, bck_d, toC_nil, toC_d, toC_o, ds_nil, ds_cons, dats_nil, dats_d, dat_d, dat_o0, dat_o1, dat_o2, startE, kg, cutE, cut1_d, cut1_n, cut1_o0, cut1_o1, zipA,
  dAdd_i, dI0_i, dMod_i, dFdiv_i, dPow_i, dLt_i, dLe_i, dGt_i, dGe_i, dLt_s, dLe_s, dGt_s, dGe_s, dEq_i, dEq_s, dEq_b, dEq_is, dEq_si, dEq_ni, dEq_in, dEq_sn, dEq_ns, dNe_i, dNe_s, dNe_b, dNe_is, dNe_si, dNe_ni, dNe_in, dIs_b, dIs_n, dIsNot_b, dIsNot_n, dIx_l, dIx_t, dSl_l, dSl_t, dEq_ti, dEq_li, D.isN, atI_0, atI_1, atI_2, atI_3, atI_4, atI_5, atI_map, map_int_inj, map_str_inj,
  fLen_t, fLen_l, fLen_s, fInt_i, fInt_b, fTup_l, fTup_t, fList_l, fList_t, fMax2_i, fMin2_i, fAbs_i, isi_int_int, isi_int_bool, isi_int_str, isi_int_tup, isi_int_lst, isi_bl_int, isi_bl_bool, isi_bl_str, isi_bl_tup, isi_str_int, isi_str_bool, isi_str_str, isi_str_tup, isi_tup_int, isi_tup_bool, isi_tup_str, isi_tup_tup, isi_lst_int, isi_lst_bool, isi_lst_str, isi_lst_tup, isi_lst_lst, isi_non_int, isi_non_bool, isi_non_str, isi_non_tup, items_t, items_l,
  List.getElem?_cons_zero, List.getElem?_cons_succ, List.set_cons_zero, List.set_cons_succ, List.map_cons, List.map_nil, List.length_cons, List.length_nil, List.cons_append, List.nil_append, List.append_nil, List.replicate_succ, List.replicate_zero, Nat.reduceAdd, Nat.reduceSub, List.head?_cons, List.tail_cons, List.take_succ_cons, List.take_zero, List.take_nil,
  Option.some.injEq, Option.map_some, Option.map_none, exists_eq_left', exists_eq_left, Rv.d.injEq, Rv.o.injEq, D.int.injEq, D.bl.injEq, D.str.injEq, D.tup.injEq, D.lst.injEq, MO.lst.injEq, List.cons.injEq, and_true, true_and, and_assoc, exists_and_left, decide_eq_true_eq, if_true, Bool.true_eq_false, Bool.false_eq_true, if_false, reduceIte, Bool.not_true, Bool.not_false, eq_self, exists_const, List.filterMap_cons_some, List.filterMap_nil, List.filterMap_cons, and_self, CMul_iff, or_true, true_or, Int.reduceLT, Int.reduceLE, Int.reduceToNat, Int.reduceNeg, Int.reduceSub, Int.reduceAdd, Int.reducePow, Nat.reducePow, Int.reduceMul, ixN_def, Int.cast_ofNat_Int, Int.reduceEq, decide_true, decide_false, dMul_i, dPow_i, strD, reduceCtorEq, ite_true, ite_false, Nat.reduceLT, Nat.reduceLeDiff, Int.reduceAbs, false_and, and_false, or_false, false_or, exists_false]
      refine lc_cons ?_
      simp only [sSeq, sNil, sIf, sSet, sAsg, sPar, sPar3, sRet, sRetN, sExpr, sBreak, sCont, sSetIx, wVar, wC, wOp, wChain, wTb, wAnd, wOr, wNotT, wAndV, wOrV, wNotV, wIf, wNil, wCons, wTup, wLst, wLstO, wSl, wNoPart, wPart, wCB, wNeg, wOrT, wTruth, wJoin, wLc, sFor, wipeE, wKw, wYes, wCall, wCallO, wApp, iL, iT, iR1, iR2, iZ, iS, gN, gsNil, gsCons, gTn, endsOf, retR_d, retR_o, sFrz, frz_d, frz_o0, frz_o1, frz_o10, tru_l, tru_t, tru_b, tru_i, tru_n, List.eraseIdx_cons_zero, List.eraseIdx_cons_succ, exists_eq', exists_eq, shf_d, bck_d, toC_nil, toC_d, toC_o, ds_nil, ds_cons, dats_nil, dats_d, dat_d, dat_o0, dat_o1, dat_o2, startE, kg, cutE, cut1_d, cut1_n, cut1_o0, cut1_o1, zipA,
  dAdd_i, dI0_i, dMod_i, dFdiv_i, dPow_i, dLt_i, dLe_i, dGt_i, dGe_i, dLt_s, dLe_s, dGt_s, dGe_s, dEq_i, dEq_s, dEq_b, dEq_is, dEq_si, dEq_ni, dEq_in, dEq_sn, dEq_ns, dNe_i, dNe_s, dNe_b, dNe_is, dNe_si, dNe_ni, dNe_in, dIs_b, dIs_n, dIsNot_b, dIsNot_n, dIx_l, dIx_t, dSl_l, dSl_t, dEq_ti, dEq_li, D.isN, atI_0, atI_1, atI_2, atI_3, atI_4, atI_5, atI_map, map_int_inj, map_str_inj,
  fLen_t, fLen_l, fLen_s, fInt_i, fInt_b, fTup_l, fTup_t, fList_l, fList_t, fMax2_i, fMin2_i, fAbs_i, isi_int_int, isi_int_bool, isi_int_str, isi_int_tup, isi_int_lst, isi_bl_int, isi_bl_bool, isi_bl_str, isi_bl_tup, isi_str_int, isi_str_bool, isi_str_str, isi_str_tup, isi_tup_int, isi_tup_bool, isi_tup_str, isi_tup_tup, isi_lst_int, isi_lst_bool, isi_lst_str, isi_lst_tup, isi_lst_lst, isi_non_int, isi_non_bool, isi_non_str, isi_non_tup, items_t, items_l,
  List.getElem?_cons_zero, List.getElem?_cons_succ, List.set_cons_zero, List.set_cons_succ, List.map_cons, List.map_nil, List.length_cons, List.length_nil, List.cons_append, List.nil_append, List.append_nil, List.replicate_succ, List.replicate_zero, Nat.reduceAdd, Nat.reduceSub, List.head?_cons, List.tail_cons, List.take_succ_cons, List.take_zero, List.take_nil,
  Option.some.injEq, Option.map_some, Option.map_none, exists_eq_left', exists_eq_left, Rv.d.injEq, Rv.o.injEq, D.int.injEq, D.bl.injEq, D.str.injEq, D.tup.injEq, D.lst.injEq, MO.lst.injEq, List.cons.injEq, and_true, true_and, and_assoc, exists_and_left, decide_eq_true_eq, if_true, Bool.true_eq_false, Bool.false_eq_true, if_false, reduceIte, Bool.not_true, Bool.not_false, eq_self, exists_const, List.filterMap_cons_some, List.filterMap_nil, List.filterMap_cons, and_self, CMul_iff, or_true, true_or, Int.reduceLT, Int.reduceLE, Int.reduceToNat, Int.reduceNeg, Int.reduceSub, Int.reduceAdd, Int.reducePow, Nat.reducePow, Int.reduceMul, ixN_def, Int.cast_ofNat_Int, Int.reduceEq, decide_true, decide_false, dMul_i, dPow_i, strD, reduceCtorEq, ite_true, ite_false, Nat.reduceLT, Nat.reduceLeDiff, Int.reduceAbs, false_and, and_false, or_false, false_or, exists_false]
      refine lc_nil ?_
      simp only [sSeq, sNil, sIf, sSet, sAsg, sPar, sPar3, sRet, sRetN, sExpr, sBreak, sCont, sSetIx, wVar, wC, wOp, wChain, wTb, wAnd, wOr, wNotT, wAndV, wOrV, wNotV, wIf, wNil, wCons, wTup, wLst, wLstO, wSl, wNoPart, wPart, wCB, wNeg, wOrT, wTruth, wJoin, wLc, sFor, wipeE, wKw, wYes, wCall, wCallO, wApp, iL, iT, iR1, iR2, iZ, iS, gN, gsNil, gsCons, gTn, endsOf, retR_d, retR_o, sFrz, frz_d, frz_o0, frz_o1, frz_o10, tru_l, tru_t, tru_b, tru_i, tru_n, List.eraseIdx_cons_zero, List.eraseIdx_cons_succ, exists_eq', exists_eq, shf_d, bck_d, toC_nil, toC_d, toC_o, ds_nil, ds_cons, dats_nil, dats_d, dat_d, dat_o0, dat_o1, dat_o2, startE, kg, cutE, cut1_d, cut1_n, cut1_o0, cut1_o1, zipA,
  dAdd_i, dI0_i, dMod_i, dFdiv_i, dPow_i, dLt_i, dLe_i, dGt_i, dGe_i, dLt_s, dLe_s, dGt_s, dGe_s, dEq_i, dEq_s, dEq_b, dEq_is, dEq_si, dEq_ni, dEq_in, dEq_sn, dEq_ns, dNe_i, dNe_s, dNe_b, dNe_is, dNe_si, dNe_ni, dNe_in, dIs_b, dIs_n, dIsNot_b, dIsNot_n, dIx_l, dIx_t, dSl_l, dSl_t, dEq_ti, dEq_li, D.isN, atI_0, atI_1, atI_2, atI_3, atI_4, atI_5, atI_map, map_int_inj, map_str_inj,
  fLen_t, fLen_l, fLen_s, fInt_i, fInt_b, fTup_l, fTup_t, fList_l, fList_t, fMax2_i, fMin2_i, fAbs_i, isi_int_int, isi_int_bool, isi_int_str, isi_int_tup, isi_int_lst, isi_bl_int, isi_bl_bool, isi_bl_str, isi_bl_tup, isi_str_int, isi_str_bool, isi_str_str, isi_str_tup, isi_tup_int, isi_tup_bool, isi_tup_str, isi_tup_tup, isi_lst_int, isi_lst_bool, isi_lst_str, isi_lst_tup, isi_lst_lst, isi_non_int, isi_non_bool, isi_non_str, isi_non_tup, items_t, items_l,
  List.getElem?_cons_zero, List.getElem?_cons_succ, List.set_cons_zero, List.set_cons_succ, List.map_cons, List.map_nil, List.length_cons, List.length_nil, List.cons_append, List.nil_append, List.append_nil, List.replicate_succ, List.replicate_zero, Nat.reduceAdd, Nat.reduceSub, List.head?_cons, List.tail_cons, List.take_succ_cons, List.take_zero, List.take_nil,
  Option.some.injEq, Option.map_some, Option.map_none, exists_eq_left', exists_eq_left, Rv.d.injEq, Rv.o.injEq, D.int.injEq, D.bl.injEq, D.str.injEq, D.tup.injEq, D.lst.injEq, MO.lst.injEq, List.cons.injEq, and_true, true_and, and_assoc, exists_and_left, decide_eq_true_eq, if_true, Bool.true_eq_false, Bool.false_eq_true, if_false, reduceIte, Bool.not_true, Bool.not_false, eq_self, exists_const, List.filterMap_cons_some, List.filterMap_nil, List.filterMap_cons, and_self, CMul_iff, or_true, true_or, Int.reduceLT, Int.reduceLE, Int.reduceToNat, Int.reduceNeg, Int.reduceSub, Int.reduceAdd, Int.reducePow, Nat.reducePow, Int.reduceMul, ixN_def, Int.cast_ofNat_Int, Int.reduceEq, decide_true, decide_false, dMul_i, dPow_i, strD, reduceCtorEq, ite_true, ite_false, Nat.reduceLT, Nat.reduceLeDiff, Int.reduceAbs, false_and, and_false, or_false, false_or, exists_false, e0]
      refine ⟨sz (by decide), sz (by decide), lc_cons ?_⟩
      simp only [sSeq, sNil, sIf, sSet, sAsg, sPar, sPar3, sRet, sRetN, sExpr, sBreak, sCont, sSetIx, wVar, wC, wOp, wChain, wTb, wAnd, wOr, wNotT, wAndV, wOrV, wNotV, wIf, wNil, wCons, wTup, wLst, wLstO, wSl, wNoPart, wPart, wCB, wNeg, wOrT, wTruth, wJoin, wLc, sFor, wipeE, wKw, wYes, wCall, wCallO, wApp, iL, iT, iR1, iR2, iZ, iS, gN, gsNil, gsCons, gTn, endsOf, retR_d, retR_o, sFrz, frz_d, frz_o0, frz_o1, frz_o10, tru_l, tru_t, tru_b, tru_i, tru_n, List.eraseIdx_cons_zero, List.eraseIdx_cons_succ, exists_eq', exists_eq, shf_d, bck_d, toC_nil, toC_d, toC_o, ds_nil, ds_cons, dats_nil, dats_d, dat_d, dat_o0, dat_o1, dat_o2, startE, kg, cutE, cut1_d, cut1_n, cut1_o0, cut1_o1, zipA,
  dAdd_i, dI0_i, dMod_i, dFdiv_i, dPow_i, dLt_i, dLe_i, dGt_i, dGe_i, dLt_s, dLe_s, dGt_s, dGe_s, dEq_i, dEq_s, dEq_b, dEq_is, dEq_si, dEq_ni, dEq_in, dEq_sn, dEq_ns, dNe_i, dNe_s, dNe_b, dNe_is, dNe_si, dNe_ni, dNe_in, dIs_b, dIs_n, dIsNot_b, dIsNot_n, dIx_l, dIx_t, dSl_l, dSl_t, dEq_ti, dEq_li, D.isN, atI_0, atI_1, atI_2, atI_3, atI_4, atI_5, atI_map, map_int_inj, map_str_inj,
  fLen_t, fLen_l, fLen_s, fInt_i, fInt_b, fTup_l, fTup_t, fList_l, fList_t, fMax2_i, fMin2_i, fAbs_i, isi_int_int, isi_int_bool, isi_int_str, isi_int_tup, isi_int_lst, isi_bl_int, isi_bl_bool, isi_bl_str, isi_bl_tup, isi_str_int, isi_str_bool, isi_str_str, isi_str_tup, isi_tup_int, isi_tup_bool, isi_tup_str, isi_tup_tup, isi_lst_int, isi_lst_bool, isi_lst_str, isi_lst_tup, isi_lst_lst, isi_non_int, isi_non_bool, isi_non_str, isi_non_tup, items_t, items_l,
  List.getElem?_cons_zero, List.getElem?_cons_succ, List.set_cons_zero, List.set_cons_succ, List.map_cons, List.map_nil, List.length_cons, List.length_nil, List.cons_append, List.nil_append, List.append_nil, List.replicate_succ, List.replicate_zero, Nat.reduceAdd, Nat.reduceSub, List.head?_cons, List.tail_cons, List.take_succ_cons, List.take_zero, List.take_nil,
  Option.some.injEq, Option.map_some, Option.map_none, exists_eq_left', exists_eq_left, Rv.d.injEq, Rv.o.injEq, D.int.injEq, D.bl.injEq, D.str.injEq, D.tup.injEq, D.lst.injEq, MO.lst.injEq, List.cons.injEq, and_true, true_and, and_assoc, exists_and_left, decide_eq_true_eq, if_true, Bool.true_eq_false, Bool.false_eq_true, if_false, reduceIte, Bool.not_true, Bool.not_false, eq_self, exists_const, List.filterMap_cons_some, List.filterMap_nil, List.filterMap_cons, and_self, CMul_iff, or_true, true_or, Int.reduceLT, Int.reduceLE, Int.reduceToNat, Int.reduceNeg, Int.reduceSub, Int.reduceAdd, Int.reducePow, Nat.reducePow, Int.reduceMul, ixN_def, Int.cast_ofNat_Int, Int.reduceEq, decide_true, decide_false, dMul_i, dPow_i, strD, reduceCtorEq, ite_true, ite_false, Nat.reduceLT, Nat.reduceLeDiff, Int.reduceAbs, false_and, and_false, or_false, false_or, exists_false]
      refine lc_cons ?_
      simp only [sSeq, sNil, sIf, sSet, sAsg, sPar, sPar3, sRet, sRetN, sExpr, sBreak, sCont, sSetIx, wVar, wC, wOp, wChain, wTb, wAnd, wOr, wNotT, wAndV, wOrV, wNotV, wIf, wNil, wCons, wTup, wLst, wLstO, wSl, wNoPart, wPart, wCB, wNeg, wOrT, wTruth, wJoin, wLc, sFor, wipeE, wKw, wYes, wCall, wCallO, wApp, iL, iT, iR1, iR2, iZ, iS, gN, gsNil, gsCons, gTn, endsOf, retR_d, retR_o, sFrz, frz_d, frz_o0, frz_o1, frz_o10, tru_l, tru_t, tru_b, tru_i, tru_n, List.eraseIdx_cons_zero, List.eraseIdx_cons_succ, exists_eq', exists_eq, shf_d, bck_d, toC_nil, toC_d, toC_o, ds_nil, ds_cons, dats_nil, dats_d, dat_d, dat_o0, dat_o1, dat_o2, startE, kg, cutE, cut1_d, cut1_n, cut1_o0, cut1_o1, zipA,
  dAdd_i, dI0_i, dMod_i, dFdiv_i, dPow_i, dLt_i, dLe_i, dGt_i, dGe_i, dLt_s, dLe_s, dGt_s, dGe_s, dEq_i, dEq_s, dEq_b, dEq_is, dEq_si, dEq_ni, dEq_in, dEq_sn, dEq_ns, dNe_i, dNe_s, dNe_b, dNe_is, dNe_si, dNe_ni, dNe_in, dIs_b, dIs_n, dIsNot_b, dIsNot_n, dIx_l, dIx_t, dSl_l, dSl_t, dEq_ti, dEq_li, D.isN, atI_0, atI_1, atI_2, atI_3, atI_4, atI_5, atI_map, map_int_inj, map_str_inj,
  fLen_t, fLen_l, fLen_s, fInt_i, fInt_b, fTup_l, fTup_t, fList_l, fList_t, fMax2_i, fMin2_i, fAbs_i, isi_int_int, isi_int_bool, isi_int_str, isi_int_tup, isi_int_lst, isi_bl_int, isi_bl_bool, isi_bl_str, isi_bl_tup, isi_str_int, isi_str_bool, isi_str_str, isi_str_tup, isi_tup_int, isi_tup_bool, isi_tup_str, isi_tup_tup, isi_lst_int, isi_lst_bool, isi_lst_str, isi_lst_tup, isi_lst_lst, isi_non_int, isi_non_bool, isi_non_str, isi_non_tup, items_t, items_l,
  List.getElem?_cons_zero, List.getElem?_cons_succ, List.set_cons_zero, List.set_cons_succ, List.map_cons, List.map_nil, List.length_cons, List.length_nil, List.cons_append, List.nil_append, List.append_nil, List.replicate_succ, List.replicate_zero, Nat.reduceAdd, Nat.reduceSub, List.head?_cons, List.tail_cons, List.take_succ_cons, List.take_zero, List.take_nil,
  Option.some.injEq, Option.map_some, Option.map_none, exists_eq_left', exists_eq_left, Rv.d.injEq, Rv.o.injEq, D.int.injEq, D.bl.injEq, D.str.injEq, D.tup.injEq, D.lst.injEq, MO.lst.injEq, List.cons.injEq, and_true, true_and, and_assoc, exists_and_left, decide_eq_true_eq, if_true, Bool.true_eq_false, Bool.false_eq_true, if_false, reduceIte, Bool.not_true, Bool.not_false, eq_self, exists_const, List.filterMap_cons_some, List.filterMap_nil, List.filterMap_cons, and_self, CMul_iff, or_true, true_or, Int.reduceLT, Int.reduceLE, Int.reduceToNat, Int.reduceNeg, Int.reduceSub, Int.reduceAdd, Int.reducePow, Nat.reducePow, Int.reduceMul, ixN_def, Int.cast_ofNat_Int, Int.reduceEq, decide_true, decide_false, dMul_i, dPow_i, strD, reduceCtorEq, ite_true, ite_false, Nat.reduceLT, Nat.reduceLeDiff, Int.reduceAbs, false_and, and_false, or_false, false_or, exists_false]
      refine lc_cons ?_
      simp only [sSeq, sNil, sIf, sSet, sAsg, sPar, sPar3, sRet, sRetN, sExpr, sBreak, sCont, sSetIx, wVar, wC, wOp, wChain, wTb, wAnd, wOr, wNotT, wAndV, wOrV, wNotV, wIf, wNil, wCons, wTup, wLst, wLstO, wSl, wNoPart, wPart, wCB, wNeg, wOrT, wTruth, wJoin, wLc, sFor, wipeE, wKw, wYes, wCall, wCallO, wApp, iL, iT, iR1, iR2, iZ, iS, gN, gsNil, gsCons, gTn, endsOf, retR_d, retR_o, sFrz, frz_d, frz_o0, frz_o1, frz_o10, tru_l, tru_t, tru_b, tru_i, tru_n, List.eraseIdx_cons_zero, List.eraseIdx_cons_succ, exists_eq', exists_eq, shf_d, bck_d, toC_nil, toC_d, toC_o, ds_nil, ds_cons, dats_nil, dats_d, dat_d, dat_o0, dat_o1, dat_o2, startE, kg, cutE, cut1_d, cut1_n, cut1_o0, cut1_o1, zipA,
  dAdd_i, dI0_i, dMod_i, dFdiv_i, dPow_i, dLt_i, dLe_i, dGt_i, dGe_i, dLt_s, dLe_s, dGt_s, dGe_s, dEq_i, dEq_s, dEq_b, dEq_is, dEq_si, dEq_ni, dEq_in, dEq_sn, dEq_ns, dNe_i, dNe_s, dNe_b, dNe_is, dNe_si, dNe_ni, dNe_in, dIs_b, dIs_n, dIsNot_b, dIsNot_n, dIx_l, dIx_t, dSl_l, dSl_t, dEq_ti, dEq_li, D.isN, atI_0, atI_1, atI_2, atI_3, atI_4, atI_5, atI_map, map_int_inj, map_str_inj,
  fLen_t, fLen_l, fLen_s, fInt_i, fInt_b, fTup_l, fTup_t, fList_l, fList_t, fMax2_i, fMin2_i, fAbs_i, isi_int_int, isi_int_bool, isi_int_str, isi_int_tup, isi_int_lst, isi_bl_int, isi_bl_bool, isi_bl_str, isi_bl_tup, isi_str_int, isi_str_bool, isi_str_str, isi_str_tup, isi_tup_int, isi_tup_bool, isi_tup_str, isi_tup_tup, isi_lst_int, isi_lst_bool, isi_lst_str, isi_lst_tup, isi_lst_lst, isi_non_int, isi_non_bool, isi_non_str, isi_non_tup, items_t, items_l,
  List.getElem?_cons_zero, List.getElem?_cons_succ, List.set_cons_zero, List.set_cons_succ, List.map_cons, List.map_nil, List.length_cons, List.length_nil, List.cons_append, List.nil_append, List.append_nil, List.replicate_succ, List.replicate_zero, Nat.reduceAdd, Nat.reduceSub, List.head?_cons, List.tail_cons, List.take_succ_cons, List.take_zero, List.take_nil,
  Option.some.injEq, Option.map_some, Option.map_none, exists_eq_left', exists_eq_left, Rv.d.injEq, Rv.o.injEq, D.int.injEq, D.bl.injEq, D.str.injEq, D.tup.injEq, D.lst.injEq, MO.lst.injEq, List.cons.injEq, and_true, true_and, and_assoc, exists_and_left, decide_eq_true_eq, if_true, Bool.true_eq_false, Bool.false_eq_true, if_false, reduceIte, Bool.not_true, Bool.not_false, eq_self, exists_const, List.filterMap_cons_some, List.filterMap_nil, List.filterMap_cons, and_self, CMul_iff, or_true, true_or, Int.reduceLT, Int.reduceLE, Int.reduceToNat, Int.reduceNeg, Int.reduceSub, Int.reduceAdd, Int.reducePow, Nat.reducePow, Int.reduceMul, ixN_def, Int.cast_ofNat_Int, Int.reduceEq, decide_true, decide_false, dMul_i, dPow_i, strD, reduceCtorEq, ite_true, ite_false, Nat.reduceLT, Nat.reduceLeDiff, Int.reduceAbs, false_and, and_false, or_false, false_or, exists_false]
      refine lc_cons ?_
      simp only [sSeq, sNil, sIf, sSet, sAsg, sPar, sPar3, sRet, sRetN, sExpr, sBreak, sCont, sSetIx, wVar, wC, wOp, wChain, wTb, wAnd, wOr, wNotT, wAndV, wOrV, wNotV, wIf, wNil, wCons, wTup, wLst, wLstO, wSl, wNoPart, wPart, wCB, wNeg, wOrT, wTruth, wJoin, wLc, sFor, wipeE, wKw, wYes, wCall, wCallO, wApp, iL, iT, iR1, iR2, iZ, iS, gN, gsNil, gsCons, gTn, endsOf, retR_d, retR_o, sFrz, frz_d, frz_o0, frz_o1, frz_o10, tru_l, tru_t, tru_b, tru_i, tru_n, List.eraseIdx_cons_zero, List.eraseIdx_cons_succ, exists_eq', exists_eq, shf_d, bck_d, toC_nil, toC_d, toC_o, ds_nil, ds_cons, dats_nil, dats_d, dat_d, dat_o0, dat_o1, dat_o2, startE, kg, cutE, cut1_d, cut1_n, cut1_o0, cut1_o1, zipA,
  dAdd_i, dI0_i, dMod_i, dFdiv_i, dPow_i, dLt_i, dLe_i, dGt_i, dGe_i, dLt_s, dLe_s, dGt_s, dGe_s, dEq_i, dEq_s, dEq_b, dEq_is, dEq_si, dEq_ni, dEq_in, dEq_sn, dEq_ns, dNe_i, dNe_s, dNe_b, dNe_is, dNe_si, dNe_ni, dNe_in, dIs_b, dIs_n, dIsNot_b, dIsNot_n, dIx_l, dIx_t, dSl_l, dSl_t, dEq_ti, dEq_li, D.isN, atI_0, atI_1, atI_2, atI_3, atI_4, atI_5, atI_map, map_int_inj, map_str_inj,
  fLen_t, fLen_l, fLen_s, fInt_i, fInt_b, fTup_l, fTup_t, fList_l, fList_t, fMax2_i, fMin2_i, fAbs_i, isi_int_int, isi_int_bool, isi_int_str, isi_int_tup, isi_int_lst, isi_bl_int, isi_bl_bool, isi_bl_str, isi_bl_tup, isi_str_int, isi_str_bool, isi_str_str, isi_str_tup, isi_tup_int, isi_tup_bool, isi_tup_str, isi_tup_tup, isi_lst_int, isi_lst_bool, isi_lst_str, isi_lst_tup, isi_lst_lst, isi_non_int, isi_non_bool, isi_non_str, isi_non_tup, items_t, items_l,
  List.getElem?_cons_zero, List.getElem?_cons_succ, List.set_cons_zero, List.set_cons_succ, List.map_cons, List.map_nil, List.length_cons, List.length_nil, List.cons_append, List.nil_append, List.append_nil, List.replicate_succ, List.replicate_zero, Nat.reduceAdd, Nat.reduceSub, List.head?_cons, List.tail_cons, List.take_succ_cons, List.take_zero, List.take_nil,
  Option.some.injEq, Option.map_some, Option.map_none, exists_eq_left', exists_eq_left, Rv.d.injEq, Rv.o.injEq, D.int.injEq, D.bl.injEq, D.str.injEq, D.tup.injEq, D.lst.injEq, MO.lst.injEq, List.cons.injEq, and_true, true_and, and_assoc, exists_and_left, decide_eq_true_eq, if_true, Bool.true_eq_false, Bool.false_eq_true, if_false, reduceIte, Bool.not_true, Bool.not_false, eq_self, exists_const, List.filterMap_cons_some, List.filterMap_nil, List.filterMap_cons, and_self, CMul_iff, or_true, true_or, Int.reduceLT, Int.reduceLE, Int.reduceToNat, Int.reduceNeg, Int.reduceSub, Int.reduceAdd, Int.reducePow, Nat.reducePow, Int.reduceMul, ixN_def, Int.cast_ofNat_Int, Int.reduceEq, decide_true, decide_false, dMul_i, dPow_i, strD, reduceCtorEq, ite_true, ite_false, Nat.reduceLT, Nat.reduceLeDiff, Int.reduceAbs, false_and, and_false, or_false, false_or, exists_false]
      refine lc_nil ?_
      simp only [sSeq, sNil, sIf, sSet, sAsg, sPar, sPar3, sRet, sRetN, sExpr, sBreak, sCont, sSetIx, wVar, wC, wOp, wChain, wTb, wAnd, wOr, wNotT, wAndV, wOrV, wNotV, wIf, wNil, wCons, wTup, wLst, wLstO, wSl, wNoPart, wPart, wCB, wNeg, wOrT, wTruth, wJoin, wLc, sFor, wipeE, wKw, wYes, wCall, wCallO, wApp, iL, iT, iR1, iR2, iZ, iS, gN, gsNil, gsCons, gTn, endsOf, retR_d, retR_o, sFrz, frz_d, frz_o0, frz_o1, frz_o10, tru_l, tru_t, tru_b, tru_i, tru_n, List.eraseIdx_cons_zero, List.eraseIdx_cons_succ, exists_eq', exists_eq, shf_d, bck_d, toC_nil, toC_d, toC_o, ds_nil, ds_cons, dats_nil, dats_d, dat_d, dat_o0, dat_o1, dat_o2, startE, kg, cutE, cut1_d, cut1_n, cut1_o0, cut1_o1, zipA,
  dAdd_i, dI0_i, dMod_i, dFdiv_i, dPow_i, dLt_i, dLe_i, dGt_i, dGe_i, dLt_s, dLe_s, dGt_s, dGe_s, dEq_i, dEq_s, dEq_b, dEq_is, dEq_si, dEq_ni, dEq_in, dEq_sn, dEq_ns, dNe_i, dNe_s, dNe_b, dNe_is, dNe_si, dNe_ni, dNe_in, dIs_b, dIs_n, dIsNot_b, dIsNot_n, dIx_l, dIx_t, dSl_l, dSl_t, dEq_ti, dEq_li, D.isN, atI_0, atI_1, atI_2, atI_3, atI_4, atI_5, atI_map, map_int_inj, map_str_inj,
  fLen_t, fLen_l, fLen_s, fInt_i, fInt_b, fTup_l, fTup_t, fList_l, fList_t, fMax2_i, fMin2_i, fAbs_i, isi_int_int, isi_int_bool, isi_int_str, isi_int_tup, isi_int_lst, isi_bl_int, isi_bl_bool, isi_bl_str, isi_bl_tup, isi_str_int, isi_str_bool, isi_str_str, isi_str_tup, isi_tup_int, isi_tup_bool, isi_tup_str, isi_tup_tup, isi_lst_int, isi_lst_bool, isi_lst_str, isi_lst_tup, isi_lst_lst, isi_non_int, isi_non_bool, isi_non_str, isi_non_tup, items_t, items_l,
  List.getElem?_cons_zero, List.getElem?_cons_succ, List.set_cons_zero, List.set_cons_succ, List.map_cons, List.map_nil, List.length_cons, List.length_nil, List.cons_append, List.nil_append, List.append_nil, List.replicate_succ, List.replicate_zero, Nat.reduceAdd, Nat.reduceSub, List.head?_cons, List.tail_cons, List.take_succ_cons, List.take_zero, List.take_nil,
  Option.some.injEq, Option.map_some, Option.map_none, exists_eq_left', exists_eq_left, Rv.d.injEq, Rv.o.injEq, D.int.injEq, D.bl.injEq, D.str.injEq, D.tup.injEq, D.lst.injEq, MO.lst.injEq, List.cons.injEq, and_true, true_and, and_assoc, exists_and_left, decide_eq_true_eq, if_true, Bool.true_eq_false, Bool.false_eq_true, if_false, reduceIte, Bool.not_true, Bool.not_false, eq_self, exists_const, List.filterMap_cons_some, List.filterMap_nil, List.filterMap_cons, and_self, CMul_iff, or_true, true_or, Int.reduceLT, Int.reduceLE, Int.reduceToNat, Int.reduceNeg, Int.reduceSub, Int.reduceAdd, Int.reducePow, Nat.reducePow, Int.reduceMul, ixN_def, Int.cast_ofNat_Int, Int.reduceEq, decide_true, decide_false, dMul_i, dPow_i, strD, reduceCtorEq, ite_true, ite_false, Nat.reduceLT, Nat.reduceLeDiff, Int.reduceAbs, false_and, and_false, or_false, false_or, exists_false, e0]
      rw [rng_len] at g1
      exact ⟨sz (by decide), h _ (g1.mono (by omega))⟩
end Lk00
set_option Elab.async false
set_option linter.all false
set_option maxRecDepth 100000
set_option maxHeartbeats 4000000
namespace Lk00
open PySem PySem.Spec PyProof.Rows L2 Dw
def c__law_words : Ct := fun rs M R => ∃ (n : Nat) (tr : MO), rs = [.o 0] ∧ M = [tr] ∧ TrayOk n tr ∧ n + 100 ≤ 1000000 ∧ ∀ tr', TrayOk (n + 100) tr' → R (.d (.bl true)) [tr']
def lowS : Str := Str.ofString "abcdefghijklmnopqrstuvwxyz"
def highS : Str := Str.ofString "ABCDEFGHIJKLMNOPQRSTUVWXYZ"
theorem isWord_t {lo hi : Nat} {x : Str} (h1 : 1 ≤ x.length) (h8 : x.length ≤ 8) (h : allIn lo hi x = true) : isWord lo hi (.str x) = true := by
  simp [isWord, h1, h8, h]
theorem isWord_f {lo hi : Nat} {x : Str} (h : allIn lo hi x = false) : isWord lo hi (.str x) = false := by
  simp [isWord, h]
theorem allIn_f {lo hi c : Nat} {x : Str} (hc : c ∈ x.cps.toList) (h : ¬ (lo ≤ c ∧ c ≤ hi)) : allIn lo hi x = false := by
  unfold allIn
  rw [List.all_eq_false]
  exact ⟨c, hc, by simpa using h⟩
theorem len_tl (x : Str) : x.cps.toList.length = x.length := by rw [Array.length_toList]; rfl
theorem allIn_sep {lo hi lo' hi' : Nat} {x : Str} (h1 : 1 ≤ x.length) (h : allIn lo hi x = true) (hd : hi < lo' ∨ hi' < lo) : allIn lo' hi' x = false := by
  have : x.cps.toList ≠ [] := fun e => by have := len_tl x; rw [e] at this; simp at this; omega
  obtain ⟨c, r, e⟩ := List.exists_cons_of_ne_nil this
  have hc : c ∈ x.cps.toList := by rw [e]; exact List.mem_cons_self
  have := of_decide_eq_true (List.all_eq_true.mp h c hc)
  exact allIn_f hc (by omega)
def signs : List Str := [Str.ofString "0", Str.ofString "9", Str.ofString "A", Str.ofString " ", Str.ofString "_", Str.ofString "-", Str.ofString "ab", Str.ofString "#", Str.ofString "~", Str.ofString "Q", Str.ofString "."]
def marks : List Str := [Str.ofString "0", Str.ofString "a", Str.ofString "z", Str.ofString " ", Str.ofString "_", Str.ofString "+", Str.ofString "*", Str.ofString "'", Str.ofString ":", Str.ofString "q", Str.ofString "("]
def bent (x : Str) (k : Nat) (sg : Str) : Str := cutS x none (some (k : Int)) ++ sg ++ cutS x (some ((k : Int) + 1)) none
theorem signs_all : ∀ s ∈ signs, s = Str.ofString "ab" ∨ (s ≠ Str.ofString "ab" ∧ s.length = 1 ∧ ∃ c, c ∈ s.cps.toList ∧ ¬ (97 ≤ c ∧ c ≤ 122)) := by
  intro s hs
  simp only [signs, List.mem_cons, List.not_mem_nil, or_false] at hs
  rcases hs with rfl | rfl | rfl | rfl | rfl | rfl | rfl | rfl | rfl | rfl | rfl
  · exact .inr ⟨by decide, by decide, 48, by decide, by decide⟩
  · exact .inr ⟨by decide, by decide, 57, by decide, by decide⟩
  · exact .inr ⟨by decide, by decide, 65, by decide, by decide⟩
  · exact .inr ⟨by decide, by decide, 32, by decide, by decide⟩
  · exact .inr ⟨by decide, by decide, 95, by decide, by decide⟩
  · exact .inr ⟨by decide, by decide, 45, by decide, by decide⟩
  · exact .inl rfl
  · exact .inr ⟨by decide, by decide, 35, by decide, by decide⟩
  · exact .inr ⟨by decide, by decide, 126, by decide, by decide⟩
  · exact .inr ⟨by decide, by decide, 81, by decide, by decide⟩
  · exact .inr ⟨by decide, by decide, 46, by decide, by decide⟩
theorem marks_all : ∀ s ∈ marks, s.length = 1 ∧ ∃ c, c ∈ s.cps.toList ∧ ¬ (65 ≤ c ∧ c ≤ 90) := by
  intro s hs
  simp only [marks, List.mem_cons, List.not_mem_nil, or_false] at hs
  rcases hs with rfl | rfl | rfl | rfl | rfl | rfl | rfl | rfl | rfl | rfl | rfl
  · exact ⟨by decide, 48, by decide, by decide⟩
  · exact ⟨by decide, 97, by decide, by decide⟩
  · exact ⟨by decide, 122, by decide, by decide⟩
  · exact ⟨by decide, 32, by decide, by decide⟩
  · exact ⟨by decide, 95, by decide, by decide⟩
  · exact ⟨by decide, 43, by decide, by decide⟩
  · exact ⟨by decide, 42, by decide, by decide⟩
  · exact ⟨by decide, 39, by decide, by decide⟩
  · exact ⟨by decide, 58, by decide, by decide⟩
  · exact ⟨by decide, 113, by decide, by decide⟩
  · exact ⟨by decide, 40, by decide, by decide⟩
theorem cps_app (x y : Str) : (x ++ y).cps.toList = x.cps.toList ++ y.cps.toList := TL.tl_append x y
theorem len_app (x y : Str) : (x ++ y).length = x.length + y.length := by
  rw [← len_tl, cps_app, List.length_append, len_tl, len_tl]
theorem cps_cut (x : Str) (lo hi : Option Int) : (cutS x lo hi).cps.toList = Dw.cutD x.cps.toList lo hi := by
  unfold cutS Dw.cutD
  rw [len_tl]
theorem bent_cps (x : Str) (k : Nat) (sg : Str) : (bent x k sg).cps.toList = x.cps.toList.take k ++ sg.cps.toList ++ x.cps.toList.drop (k + 1) := by
  unfold bent
  rw [cps_app, cps_app, cps_cut, cps_cut, cut_take, show ((k : Int) + 1) = ((k + 1 : Nat) : Int) by omega, cut_drop]
theorem cutS_len (x : Str) (lo hi : Option Int) : (cutS x lo hi).length ≤ x.length := by
  rw [← len_tl, cps_cut, ← len_tl x]
  unfold Dw.cutD
  rw [List.length_take, List.length_drop]; omega
theorem bent_law (x : Str) (k : Nat) (sg : Str) (h1 : 1 ≤ x.length) (h8 : x.length ≤ 8) (ha : allIn 97 122 x = true) (hk : k < x.length) (hs : sg ∈ signs) :
    (cutS x none (some (k : Int)) ++ sg).length + (cutS x (some ((k : Int) + 1)) none).length ≤ 10000 ∧ (cutS x none (some (k : Int))).length + sg.length ≤ 10000 ∧ (bent x k sg).length ≤ 1000 ∧ isWord 97 122 (.str (bent x k sg)) = if sg = Str.ofString "ab" then decide (((bent x k sg).length : Int) < 9) else false := by
  have q1 := cutS_len x none (some (k : Int))
  have q2 := cutS_len x (some ((k : Int) + 1)) none
  have hl := len_tl x
  have hsl : sg.length ≤ 2 := by
    rcases signs_all sg hs with rfl | ⟨_, h, _⟩
    · decide
    · omega
  have hb : (bent x k sg).length = x.length - 1 + sg.length := by
    rw [← len_tl, bent_cps]
    simp only [List.length_append, List.length_take, List.length_drop, len_tl]
    omega
  refine ⟨by rw [len_app]; omega, by omega, by omega, ?_⟩
  rcases signs_all sg hs with rfl | ⟨hn, _, c, hc, hcn⟩
  · rw [if_pos rfl]
    have hal : allIn 97 122 (bent x k (Str.ofString "ab")) = true := by
      unfold allIn at ha ⊢
      rw [bent_cps, List.all_append, List.all_append, Bool.and_eq_true, Bool.and_eq_true]
      rw [List.all_eq_true] at ha
      exact ⟨⟨List.all_eq_true.mpr fun c hc => ha c (List.mem_of_mem_take hc), by decide⟩, List.all_eq_true.mpr fun c hc => ha c (List.mem_of_mem_drop hc)⟩
    have h2 : (Str.ofString "ab").length = 2 := by decide
    simp only [isWord, hal, Bool.and_true]
    rw [decide_eq_decide]
    omega
  · rw [if_neg hn]
    exact isWord_f (allIn_f (c := c) (by rw [bent_cps]; exact List.mem_append_left _ (List.mem_append_right _ hc)) hcn)
theorem mark_law (x mk : Str) (h8 : x.length ≤ 8) (hm : mk ∈ marks) : x.length + mk.length ≤ 10000 ∧ isWord 65 90 (.str (x ++ mk)) = false := by
  obtain ⟨h1, c, hc, hcn⟩ := marks_all mk hm
  exact ⟨by omega, isWord_f (allIn_f (c := c) (by rw [cps_app]; exact List.mem_append_right _ hc) hcn)⟩
def oddW : List D := [D.str (Str.ofString ""), D.non, D.int 0, D.int 7, D.bl true, D.tup [], D.tup [D.str (Str.ofString "a")], D.lst [D.str (Str.ofString "a")], D.tup [D.str (Str.ofString "A")], D.str (Str.ofString "a b"), D.str (Str.ofString "aA"), D.str (Str.ofString "Aa"), D.str (Str.ofString "a1"), D.str (Str.ofString "A1"), D.str (Str.ofString " a"), D.str (Str.ofString "A "), D.str (Str.ofString "abcdefghi"), D.str (Str.ofString "ABCDEFGHI")]
theorem oddW_ok : ∀ v ∈ oddW, Known v ∧ (∀ s, v = .str s → s.length ≤ 1000) ∧ isWord 97 122 v = false ∧ isWord 65 90 v = false := by
  intro v hv
  simp only [oddW, List.mem_cons, List.not_mem_nil, or_false] at hv
  rcases hv with rfl | rfl | rfl | rfl | rfl | rfl | rfl | rfl | rfl | rfl | rfl | rfl | rfl | rfl | rfl | rfl | rfl | rfl <;> exact ⟨⟨_, rfl⟩, fun s e => by cases e <;> decide, by decide, by decide⟩
theorem ln__law_words : ∀ rs M R, c__law_words rs M R → rs.length = 1 ∧ M.length = 1 := by
  rintro rs M R ⟨n, tr, rfl, rfl, _⟩; exact ⟨rfl, rfl⟩
set_option maxHeartbeats 8000000 in
theorem ok__law_words {P : Program} {w : World} {K : PySem.W.Frag} {mg : Str → Option Value} {base : Heap} (T : Tx K mg) : FnOk P w K mg base CX0 3 T.a__law_words T.fd__law_words ["tray"] (spD K c__law_words) := by
  refine fnD (n0 := 1) T.F__law_words sc__law_words ln__law_words fun cdv A outer s H E hr => ⟨_, (qss_cons (qs_asg (qe_tup (qa_cons qe_str (qa_cons qe_str qa_nil))) (qg_tupn (n := 2) rfl (qgs_cons (qg_name (i := 1) sc__law_words.nd rfl (by first | exact .inl rfl | exact .inr rfl)) (qgs_cons (qg_name (i := 2) sc__law_words.nd rfl (by first | exact .inl rfl | exact .inr rfl)) qgs_nil)))) (qss_cons (qs_for PassesOwn.never rfl (qi_range1 (by rfl) T.n_range (qa_cons qe_int qa_nil)) (qg_name (i := 3) sc__law_words.nd rfl (by first | exact .inl rfl | exact .inr rfl)) (qss_cons (qs_par (i := 4) (j := 5) rfl sc__law_words.nd rfl rfl (by decide) rfl rfl (qa_cons (qe_callO 0 (ok__law_word T) (hr.mono (by decide)) (by rfl) T.g__law_word T.F__law_word.kp (b__law_word T) (qa_cons (qv 0) (qa_cons (qv 1) qa_nil))) (qa_cons (qe_callO 0 (ok__law_word T) (hr.mono (by decide)) (by rfl) T.g__law_word T.F__law_word.kp (b__law_word T) (qa_cons (qv 0) (qa_cons (qv 2) qa_nil))) qa_nil)) (by rfl)) (qss_cons (qs_set (i := 6) sc__law_words.nd rfl (.inl rfl) (qe_tup (qa_cons (qe_call (ok_is_bin T) (hr.mono (by decide)) (by rfl) T.g_is_bin T.F_is_bin.kp (b_is_bin T) (qa_cons (qv 4) qa_nil)) (qa_cons (qe_callK0 (ok_is_open_name T) (hr.mono (by decide)) (by rfl) T.g_is_open_name T.F_is_open_name.kp (kb_is_open_name_0_thing T) (qk_cons (qv 5) qk_nil)) (qa_cons (qe_callK0 (ok_is_bin T) (hr.mono (by decide)) (by rfl) T.g_is_bin T.F_is_bin.kp (kb_is_bin_0_thing T) (qk_cons (qv 5) qk_nil)) (qa_cons (qe_call (ok_is_open_name T) (hr.mono (by decide)) (by rfl) T.g_is_open_name T.F_is_open_name.kp (b_is_open_name T) (qa_cons (qv 4) qa_nil)) qa_nil)))))) (qss_cons (qs_for PassesOwn.never rfl (qi_range1 (by rfl) T.n_range (qa_cons qe_int qa_nil)) (qg_name (i := 7) sc__law_words.nd rfl (by first | exact .inl rfl | exact .inr rfl)) (qss_one (qs_if (qt_not (qt_val (qe_call (ok__law_same T) (hr.mono (by decide)) (by rfl) T.g__law_same T.F__law_same.kp (b__law_same T) (qa_cons (qe_ix (qv 6) (qv 7)) (qa_cons (qe_lt (qv 7) qe_int) qa_nil))))) (qss_one (qs_ret qe_bl)) qss_nil))) (qss_cons (qs_set (i := 7) sc__law_words.nd rfl (.inl rfl) (qe_callO 0 (ok__law_pick T) (hr.mono (by decide)) (by rfl) T.g__law_pick T.F__law_pick.kp (b__law_pick T) (qa_cons (qv 0) (qa_cons (qe_len (by rfl) T.n_len (qa_cons (qv 4) qa_nil)) qa_nil)))) (qss_cons (qs_set (i := 8) sc__law_words.nd rfl (.inl rfl) (qe_ix (qe_tup (qa_cons qe_str (qa_cons qe_str (qa_cons qe_str (qa_cons qe_str (qa_cons qe_str (qa_cons qe_str (qa_cons qe_str (qa_cons qe_str (qa_cons qe_str (qa_cons qe_str (qa_cons qe_str qa_nil)))))))))))) (qe_callO 0 (ok__law_pick T) (hr.mono (by decide)) (by rfl) T.g__law_pick T.F__law_pick.kp (b__law_pick T) (qa_cons (qv 0) (qa_cons qe_int qa_nil))))) (qss_cons (qs_set (i := 9) sc__law_words.nd rfl (.inl rfl) (qe_ix (qe_tup (qa_cons qe_str (qa_cons qe_str (qa_cons qe_str (qa_cons qe_str (qa_cons qe_str (qa_cons qe_str (qa_cons qe_str (qa_cons qe_str (qa_cons qe_str (qa_cons qe_str (qa_cons qe_str qa_nil)))))))))))) (qe_callO 0 (ok__law_pick T) (hr.mono (by decide)) (by rfl) T.g__law_pick T.F__law_pick.kp (b__law_pick T) (qa_cons (qv 0) (qa_cons qe_int qa_nil))))) (qss_cons (qs_set (i := 10) sc__law_words.nd rfl (.inl rfl) (qe_add (qe_add (qe_sl (qv 4) qo_none (qo_some (qv 7))) (qv 8)) (qe_sl (qv 4) (qo_some (qe_add (qv 7) qe_int)) qo_none))) (qss_cons (qs_set (i := 11) sc__law_words.nd rfl (.inl rfl) (qe_and (qe_eq (u64 hr) (qv 8) qe_str) (qe_one (qe_lt (qe_len (by rfl) T.n_len (qa_cons (qv 10) qa_nil)) qe_int)))) (qss_one (qs_if (QW.t (qw_or (qt_not (qt_val (qe_call (ok__law_same T) (hr.mono (by decide)) (by rfl) T.g__law_same T.F__law_same.kp (b__law_same T) (qa_cons (qe_call (ok_is_bin T) (hr.mono (by decide)) (by rfl) T.g_is_bin T.F_is_bin.kp (b_is_bin T) (qa_cons (qv 10) qa_nil)) (qa_cons (qv 11) qa_nil))))) (qw_or1 (qt_not (qt_val (qe_call (ok__law_same T) (hr.mono (by decide)) (by rfl) T.g__law_same T.F__law_same.kp (b__law_same T) (qa_cons (qe_call (ok_is_open_name T) (hr.mono (by decide)) (by rfl) T.g_is_open_name T.F_is_open_name.kp (b_is_open_name T) (qa_cons (qe_add (qv 5) (qv 9)) qa_nil)) (qa_cons qe_bl qa_nil)))))))) (qss_one (qs_ret qe_bl)) qss_nil))))))))))) (qss_cons (qs_set (i := 12) sc__law_words.nd rfl (.inl rfl) (qe_tup (qa_cons qe_str (qa_cons qe_non (qa_cons qe_int (qa_cons qe_int (qa_cons qe_bl (qa_cons (qe_tup qa_nil) (qa_cons (qe_tup (qa_cons qe_str qa_nil)) (qa_cons (qe_lst (qa_cons qe_str qa_nil)) (qa_cons (qe_tup (qa_cons qe_str qa_nil)) (qa_cons qe_str (qa_cons qe_str (qa_cons qe_str (qa_cons qe_str (qa_cons qe_str (qa_cons qe_str (qa_cons qe_str (qa_cons qe_str (qa_cons qe_str qa_nil)))))))))))))))))))) (qss_cons (qs_for PassesOwn.never rfl (qi_tup (qe_tup (qa_cons (qe_ix (qv 12) (qe_callO 0 (ok__law_pick T) (hr.mono (by decide)) (by rfl) T.g__law_pick T.F__law_pick.kp (b__law_pick T) (qa_cons (qv 0) (qa_cons qe_int qa_nil)))) (qa_cons (qe_ix (qv 12) (qe_callO 0 (ok__law_pick T) (hr.mono (by decide)) (by rfl) T.g__law_pick T.F__law_pick.kp (b__law_pick T) (qa_cons (qv 0) (qa_cons qe_int qa_nil)))) (qa_cons (qe_mul qe_str (qe_add qe_int (qe_callO 0 (ok__law_pick T) (hr.mono (by decide)) (by rfl) T.g__law_pick T.F__law_pick.kp (b__law_pick T) (qa_cons (qv 0) (qa_cons qe_int qa_nil))))) qa_nil))))) (qg_name (i := 13) sc__law_words.nd rfl (by first | exact .inl rfl | exact .inr rfl)) (qss_one (qs_if (QW.t (qw_or (qt_not (qt_val (qe_call (ok__law_same T) (hr.mono (by decide)) (by rfl) T.g__law_same T.F__law_same.kp (b__law_same T) (qa_cons (qe_call (ok_is_bin T) (hr.mono (by decide)) (by rfl) T.g_is_bin T.F_is_bin.kp (b_is_bin T) (qa_cons (qv 13) qa_nil)) (qa_cons qe_bl qa_nil))))) (qw_or1 (qt_not (qt_val (qe_call (ok__law_same T) (hr.mono (by decide)) (by rfl) T.g__law_same T.F__law_same.kp (b__law_same T) (qa_cons (qe_call (ok_is_open_name T) (hr.mono (by decide)) (by rfl) T.g_is_open_name T.F_is_open_name.kp (b_is_open_name T) (qa_cons (qv 13) qa_nil)) (qa_cons qe_bl qa_nil)))))))) (qss_one (qs_ret qe_bl)) qss_nil))) (qss_one (qs_ret (qe_and (qe_is (qe_call (ok_is_open_name T) (hr.mono (by decide)) (by rfl) T.g_is_open_name T.F_is_open_name.kp (b_is_open_name T) (qa_cons (qe_mul qe_str qe_int) qa_nil)) qe_bl) (qe_and (qe_is (qe_call (ok_is_bin T) (hr.mono (by decide)) (by rfl) T.g_is_bin T.F_is_bin.kp (b_is_bin T) (qa_cons (qe_mul qe_str qe_int) qa_nil)) qe_bl) (qe_one (qe_is (qe_call (ok_is_open_name T) (hr.mono (by decide)) (by rfl) T.g_is_open_name T.F_is_open_name.kp (b_is_open_name T) (qa_cons (qe_mul qe_str qe_int) qa_nil)) qe_bl)))))))))), fun rs M R h => ?_⟩
  obtain ⟨n, tr, rfl, rfl, ht, hn, h⟩ := h
  simp only [sSeq, sNil, sIf, sSet, sAsg, sPar, sPar3, sRet, sRetN, sExpr, sBreak, sCont, sSetIx, wVar, wC, wOp, wChain, wTb, wAnd, wOr, wNotT, wAndV, wOrV, wNotV, wIf, wNil, wCons, wTup, wLst, wLstO, wSl, wNoPart, wPart, wCB, wNeg, wOrT, wTruth, wJoin, wLc, sFor, wipeE, wKw, wYes, wCall, wCallO, wApp, iL, iT, iR1, iR2, iZ, iS, gN, gsNil, gsCons, gTn, endsOf, retR_d, retR_o, sFrz, frz_d, frz_o0, frz_o1, frz_o10, tru_l, tru_t, tru_b, tru_i, tru_n, List.eraseIdx_cons_zero, List.eraseIdx_cons_succ, exists_eq', exists_eq, shf_d, bck_d, toC_nil, toC_d, toC_o, ds_nil, ds_cons, dats_nil, dats_d, dat_d, dat_o0, dat_o1, dat_o2, startE, kg, cutE, cut1_d, cut1_n, cut1_o0, cut1_o1, zipA,
  dAdd_i, dI0_i, dMod_i, dFdiv_i, dPow_i, dLt_i, dLe_i, dGt_i, dGe_i, dLt_s, dLe_s, dGt_s, dGe_s, dEq_i, dEq_s, dEq_b, dEq_is, dEq_si, dEq_ni, dEq_in, dEq_sn, dEq_ns, dNe_i, dNe_s, dNe_b, dNe_is, dNe_si, dNe_ni, dNe_in, dIs_b, dIs_n, dIsNot_b, dIsNot_n, dIx_l, dIx_t, dSl_l, dSl_t, dEq_ti, dEq_li, D.isN, atI_0, atI_1, atI_2, atI_3, atI_4, atI_5, atI_map, map_int_inj, map_str_inj,
  fLen_t, fLen_l, fLen_s, fInt_i, fInt_b, fTup_l, fTup_t, fList_l, fList_t, fMax2_i, fMin2_i, fAbs_i, isi_int_int, isi_int_bool, isi_int_str, isi_int_tup, isi_int_lst, isi_bl_int, isi_bl_bool, isi_bl_str, isi_bl_tup, isi_str_int, isi_str_bool, isi_str_str, isi_str_tup, isi_tup_int, isi_tup_bool, isi_tup_str, isi_tup_tup, isi_lst_int, isi_lst_bool, isi_lst_str, isi_lst_tup, isi_lst_lst, isi_non_int, isi_non_bool, isi_non_str, isi_non_tup, items_t, items_l,
  List.getElem?_cons_zero, List.getElem?_cons_succ, List.set_cons_zero, List.set_cons_succ, List.map_cons, List.map_nil, List.length_cons, List.length_nil, List.cons_append, List.nil_append, List.append_nil, List.replicate_succ, List.replicate_zero, Nat.reduceAdd, Nat.reduceSub, List.head?_cons, List.tail_cons, List.take_succ_cons, List.take_zero, List.take_nil,
  Option.some.injEq, Option.map_some, Option.map_none, exists_eq_left', exists_eq_left, Rv.d.injEq, Rv.o.injEq, D.int.injEq, D.bl.injEq, D.str.injEq, D.tup.injEq, D.lst.injEq, MO.lst.injEq, List.cons.injEq, and_true, true_and, and_assoc, exists_and_left, decide_eq_true_eq, if_true, Bool.true_eq_false, Bool.false_eq_true, if_false, reduceIte, Bool.not_true, Bool.not_false, eq_self, exists_const, List.filterMap_cons_some, List.filterMap_nil, List.filterMap_cons, and_self, CMul_iff, or_true, true_or, Int.reduceLT, Int.reduceLE, Int.reduceToNat, Int.reduceNeg, Int.reduceSub, Int.reduceAdd, Int.reducePow, Nat.reducePow, Int.reduceMul, ixN_def, Int.cast_ofNat_Int, Int.reduceEq, decide_true, decide_false, dMul_i, dPow_i, strD, reduceCtorEq, ite_true, ite_false, Nat.reduceLT, Nat.reduceLeDiff, Int.reduceAbs, false_and, and_false, or_false, false_or, exists_false]
  refine ⟨sz (by decide), for_0 (fun i env M => ∃ (t : MO) (e3 e4 e5 e6 e7 e8 e9 e10 e11 e12 e13 : Option Rv), env = [some (.o 0), some (.d (.str lowS)), some (.d (.str highS)), e3, e4, e5, e6, e7, e8, e9, e10, e11, e12, e13] ∧ M = [t] ∧ TrayOk (n + 23 * i) t)
    ⟨tr, _, _, _, _, _, _, _, _, _, _, _, rfl, rfl, ht⟩ (fun i d env M hd hI => ?_) (fun env M hI => ?_)⟩
  · obtain ⟨t, e3, e4, e5, e6, e7, e8, e9, e10, e11, e12, e13, rfl, rfl, g1⟩ := hI
    have hi4 := (rngD_get hd).1
    simp only [sSeq, sNil, sIf, sSet, sAsg, sPar, sPar3, sRet, sRetN, sExpr, sBreak, sCont, sSetIx, wVar, wC, wOp, wChain, wTb, wAnd, wOr, wNotT, wAndV, wOrV, wNotV, wIf, wNil, wCons, wTup, wLst, wLstO, wSl, wNoPart, wPart, wCB, wNeg, wOrT, wTruth, wJoin, wLc, sFor, wipeE, wKw, wYes, wCall, wCallO, wApp, iL, iT, iR1, iR2, iZ, iS, gN, gsNil, gsCons, gTn, endsOf, retR_d, retR_o, sFrz, frz_d, frz_o0, frz_o1, frz_o10, tru_l, tru_t, tru_b, tru_i, tru_n, List.eraseIdx_cons_zero, List.eraseIdx_cons_succ, exists_eq', exists_eq, shf_d, bck_d, toC_nil, toC_d, toC_o, ds_nil, ds_cons, dats_nil, dats_d, dat_d, dat_o0, dat_o1, dat_o2, startE, kg, cutE, cut1_d, cut1_n, cut1_o0, cut1_o1, zipA,
  dAdd_i, dI0_i, dMod_i, dFdiv_i, dPow_i, dLt_i, dLe_i, dGt_i, dGe_i, dLt_s, dLe_s, dGt_s, dGe_s, dEq_i, dEq_s, dEq_b, dEq_is, dEq_si, dEq_ni, dEq_in, dEq_sn, dEq_ns, dNe_i, dNe_s, dNe_b, dNe_is, dNe_si, dNe_ni, dNe_in, dIs_b, dIs_n, dIsNot_b, dIsNot_n, dIx_l, dIx_t, dSl_l, dSl_t, dEq_ti, dEq_li, D.isN, atI_0, atI_1, atI_2, atI_3, atI_4, atI_5, atI_map, map_int_inj, map_str_inj,
  fLen_t, fLen_l, fLen_s, fInt_i, fInt_b, fTup_l, fTup_t, fList_l, fList_t, fMax2_i, fMin2_i, fAbs_i, isi_int_int, isi_int_bool, isi_int_str, isi_int_tup, isi_int_lst, isi_bl_int, isi_bl_bool, isi_bl_str, isi_bl_tup, isi_str_int, isi_str_bool, isi_str_str, isi_str_tup, isi_tup_int, isi_tup_bool, isi_tup_str, isi_tup_tup, isi_lst_int, isi_lst_bool, isi_lst_str, isi_lst_tup, isi_lst_lst, isi_non_int, isi_non_bool, isi_non_str, isi_non_tup, items_t, items_l,
  List.getElem?_cons_zero, List.getElem?_cons_succ, List.set_cons_zero, List.set_cons_succ, List.map_cons, List.map_nil, List.length_cons, List.length_nil, List.cons_append, List.nil_append, List.append_nil, List.replicate_succ, List.replicate_zero, Nat.reduceAdd, Nat.reduceSub, List.head?_cons, List.tail_cons, List.take_succ_cons, List.take_zero, List.take_nil,
  Option.some.injEq, Option.map_some, Option.map_none, exists_eq_left', exists_eq_left, Rv.d.injEq, Rv.o.injEq, D.int.injEq, D.bl.injEq, D.str.injEq, D.tup.injEq, D.lst.injEq, MO.lst.injEq, List.cons.injEq, and_true, true_and, and_assoc, exists_and_left, decide_eq_true_eq, if_true, Bool.true_eq_false, Bool.false_eq_true, if_false, reduceIte, Bool.not_true, Bool.not_false, eq_self, exists_const, List.filterMap_cons_some, List.filterMap_nil, List.filterMap_cons, and_self, CMul_iff, or_true, true_or, Int.reduceLT, Int.reduceLE, Int.reduceToNat, Int.reduceNeg, Int.reduceSub, Int.reduceAdd, Int.reducePow, Nat.reducePow, Int.reduceMul, ixN_def, Int.cast_ofNat_Int, Int.reduceEq, decide_true, decide_false, dMul_i, dPow_i, strD, reduceCtorEq, ite_true, ite_false, Nat.reduceLT, Nat.reduceLeDiff, Int.reduceAbs, false_and, and_false, or_false, false_or, exists_false]
    refine ⟨n + 23 * i, t, lowS, 97, 122, rfl, rfl, g1, by omega, rfl, by decide, fun one t1 l1 l8 la ht1 => ?_⟩
    simp only [sSeq, sNil, sIf, sSet, sAsg, sPar, sPar3, sRet, sRetN, sExpr, sBreak, sCont, sSetIx, wVar, wC, wOp, wChain, wTb, wAnd, wOr, wNotT, wAndV, wOrV, wNotV, wIf, wNil, wCons, wTup, wLst, wLstO, wSl, wNoPart, wPart, wCB, wNeg, wOrT, wTruth, wJoin, wLc, sFor, wipeE, wKw, wYes, wCall, wCallO, wApp, iL, iT, iR1, iR2, iZ, iS, gN, gsNil, gsCons, gTn, endsOf, retR_d, retR_o, sFrz, frz_d, frz_o0, frz_o1, frz_o10, tru_l, tru_t, tru_b, tru_i, tru_n, List.eraseIdx_cons_zero, List.eraseIdx_cons_succ, exists_eq', exists_eq, shf_d, bck_d, toC_nil, toC_d, toC_o, ds_nil, ds_cons, dats_nil, dats_d, dat_d, dat_o0, dat_o1, dat_o2, startE, kg, cutE, cut1_d, cut1_n, cut1_o0, cut1_o1, zipA,
  dAdd_i, dI0_i, dMod_i, dFdiv_i, dPow_i, dLt_i, dLe_i, dGt_i, dGe_i, dLt_s, dLe_s, dGt_s, dGe_s, dEq_i, dEq_s, dEq_b, dEq_is, dEq_si, dEq_ni, dEq_in, dEq_sn, dEq_ns, dNe_i, dNe_s, dNe_b, dNe_is, dNe_si, dNe_ni, dNe_in, dIs_b, dIs_n, dIsNot_b, dIsNot_n, dIx_l, dIx_t, dSl_l, dSl_t, dEq_ti, dEq_li, D.isN, atI_0, atI_1, atI_2, atI_3, atI_4, atI_5, atI_map, map_int_inj, map_str_inj,
  fLen_t, fLen_l, fLen_s, fInt_i, fInt_b, fTup_l, fTup_t, fList_l, fList_t, fMax2_i, fMin2_i, fAbs_i, isi_int_int, isi_int_bool, isi_int_str, isi_int_tup, isi_int_lst, isi_bl_int, isi_bl_bool, isi_bl_str, isi_bl_tup, isi_str_int, isi_str_bool, isi_str_str, isi_str_tup, isi_tup_int, isi_tup_bool, isi_tup_str, isi_tup_tup, isi_lst_int, isi_lst_bool, isi_lst_str, isi_lst_tup, isi_lst_lst, isi_non_int, isi_non_bool, isi_non_str, isi_non_tup, items_t, items_l,
  List.getElem?_cons_zero, List.getElem?_cons_succ, List.set_cons_zero, List.set_cons_succ, List.map_cons, List.map_nil, List.length_cons, List.length_nil, List.cons_append, List.nil_append, List.append_nil, List.replicate_succ, List.replicate_zero, Nat.reduceAdd, Nat.reduceSub, List.head?_cons, List.tail_cons, List.take_succ_cons, List.take_zero, List.take_nil,
  Option.some.injEq, Option.map_some, Option.map_none, exists_eq_left', exists_eq_left, Rv.d.injEq, Rv.o.injEq, D.int.injEq, D.bl.injEq, D.str.injEq, D.tup.injEq, D.lst.injEq, MO.lst.injEq, List.cons.injEq, and_true, true_and, and_assoc, exists_and_left, decide_eq_true_eq, if_true, Bool.true_eq_false, Bool.false_eq_true, if_false, reduceIte, Bool.not_true, Bool.not_false, eq_self, exists_const, List.filterMap_cons_some, List.filterMap_nil, List.filterMap_cons, and_self, CMul_iff, or_true, true_or, Int.reduceLT, Int.reduceLE, Int.reduceToNat, Int.reduceNeg, Int.reduceSub, Int.reduceAdd, Int.reducePow, Nat.reducePow, Int.reduceMul, ixN_def, Int.cast_ofNat_Int, Int.reduceEq, decide_true, decide_false, dMul_i, dPow_i, strD, reduceCtorEq, ite_true, ite_false, Nat.reduceLT, Nat.reduceLeDiff, Int.reduceAbs, false_and, and_false, or_false, false_or, exists_false]
    refine ⟨n + 23 * i + 10, t1, highS, 65, 90, rfl, rfl, ht1, by omega, rfl, by decide, fun other t2 o1 o8 oa ht2 => ?_⟩
    simp only [sSeq, sNil, sIf, sSet, sAsg, sPar, sPar3, sRet, sRetN, sExpr, sBreak, sCont, sSetIx, wVar, wC, wOp, wChain, wTb, wAnd, wOr, wNotT, wAndV, wOrV, wNotV, wIf, wNil, wCons, wTup, wLst, wLstO, wSl, wNoPart, wPart, wCB, wNeg, wOrT, wTruth, wJoin, wLc, sFor, wipeE, wKw, wYes, wCall, wCallO, wApp, iL, iT, iR1, iR2, iZ, iS, gN, gsNil, gsCons, gTn, endsOf, retR_d, retR_o, sFrz, frz_d, frz_o0, frz_o1, frz_o10, tru_l, tru_t, tru_b, tru_i, tru_n, List.eraseIdx_cons_zero, List.eraseIdx_cons_succ, exists_eq', exists_eq, shf_d, bck_d, toC_nil, toC_d, toC_o, ds_nil, ds_cons, dats_nil, dats_d, dat_d, dat_o0, dat_o1, dat_o2, startE, kg, cutE, cut1_d, cut1_n, cut1_o0, cut1_o1, zipA,
  dAdd_i, dI0_i, dMod_i, dFdiv_i, dPow_i, dLt_i, dLe_i, dGt_i, dGe_i, dLt_s, dLe_s, dGt_s, dGe_s, dEq_i, dEq_s, dEq_b, dEq_is, dEq_si, dEq_ni, dEq_in, dEq_sn, dEq_ns, dNe_i, dNe_s, dNe_b, dNe_is, dNe_si, dNe_ni, dNe_in, dIs_b, dIs_n, dIsNot_b, dIsNot_n, dIx_l, dIx_t, dSl_l, dSl_t, dEq_ti, dEq_li, D.isN, atI_0, atI_1, atI_2, atI_3, atI_4, atI_5, atI_map, map_int_inj, map_str_inj,
  fLen_t, fLen_l, fLen_s, fInt_i, fInt_b, fTup_l, fTup_t, fList_l, fList_t, fMax2_i, fMin2_i, fAbs_i, isi_int_int, isi_int_bool, isi_int_str, isi_int_tup, isi_int_lst, isi_bl_int, isi_bl_bool, isi_bl_str, isi_bl_tup, isi_str_int, isi_str_bool, isi_str_str, isi_str_tup, isi_tup_int, isi_tup_bool, isi_tup_str, isi_tup_tup, isi_lst_int, isi_lst_bool, isi_lst_str, isi_lst_tup, isi_lst_lst, isi_non_int, isi_non_bool, isi_non_str, isi_non_tup, items_t, items_l,
  List.getElem?_cons_zero, List.getElem?_cons_succ, List.set_cons_zero, List.set_cons_succ, List.map_cons, List.map_nil, List.length_cons, List.length_nil, List.cons_append, List.nil_append, List.append_nil, List.replicate_succ, List.replicate_zero, Nat.reduceAdd, Nat.reduceSub, List.head?_cons, List.tail_cons, List.take_succ_cons, List.take_zero, List.take_nil,
  Option.some.injEq, Option.map_some, Option.map_none, exists_eq_left', exists_eq_left, Rv.d.injEq, Rv.o.injEq, D.int.injEq, D.bl.injEq, D.str.injEq, D.tup.injEq, D.lst.injEq, MO.lst.injEq, List.cons.injEq, and_true, true_and, and_assoc, exists_and_left, decide_eq_true_eq, if_true, Bool.true_eq_false, Bool.false_eq_true, if_false, reduceIte, Bool.not_true, Bool.not_false, eq_self, exists_const, List.filterMap_cons_some, List.filterMap_nil, List.filterMap_cons, and_self, CMul_iff, or_true, true_or, Int.reduceLT, Int.reduceLE, Int.reduceToNat, Int.reduceNeg, Int.reduceSub, Int.reduceAdd, Int.reducePow, Nat.reducePow, Int.reduceMul, ixN_def, Int.cast_ofNat_Int, Int.reduceEq, decide_true, decide_false, dMul_i, dPow_i, strD, reduceCtorEq, ite_true, ite_false, Nat.reduceLT, Nat.reduceLeDiff, Int.reduceAbs, false_and, and_false, or_false, false_or, exists_false, c_is_bin, c_is_open_name, show rngD 0 4 = [.int 0, .int 1, .int 2, .int 3] from rfl]
    have ko : ∀ s : Str, one = s → s.length ≤ 1000 := fun s e => by rw [← e]; omega
    have kt : ∀ s : Str, other = s → s.length ≤ 1000 := fun s e => by rw [← e]; omega
    have w1 : isWord 97 122 (.str one) = true := isWord_t l1 l8 la
    have w2 : isWord 65 90 (.str other) = true := isWord_t o1 o8 oa
    have w3 : isWord 97 122 (.str other) = false := isWord_f (allIn_sep o1 oa (by decide))
    have w4 : isWord 65 90 (.str one) = false := isWord_f (allIn_sep l1 la (by decide))
    refine ⟨known_s _, ko, known_s _, kt, known_s _, kt, known_s _, ko, sz (by decide), for_cons ?_⟩
    simp only [sSeq, sNil, sIf, sSet, sAsg, sPar, sPar3, sRet, sRetN, sExpr, sBreak, sCont, sSetIx, wVar, wC, wOp, wChain, wTb, wAnd, wOr, wNotT, wAndV, wOrV, wNotV, wIf, wNil, wCons, wTup, wLst, wLstO, wSl, wNoPart, wPart, wCB, wNeg, wOrT, wTruth, wJoin, wLc, sFor, wipeE, wKw, wYes, wCall, wCallO, wApp, iL, iT, iR1, iR2, iZ, iS, gN, gsNil, gsCons, gTn, endsOf, retR_d, retR_o, sFrz, frz_d, frz_o0, frz_o1, frz_o10, tru_l, tru_t, tru_b, tru_i, tru_n, List.eraseIdx_cons_zero, List.eraseIdx_cons_succ, exists_eq', exists_eq, shf_d, bck_d, toC_nil, toC_d, toC_o, ds_nil, ds_cons, dats_nil, dats_d, dat_d, dat_o0, dat_o1, dat_o2, startE, kg, cutE, cut1_d, cut1_n, cut1_o0, cut1_o1, zipA,
  dAdd_i, dI0_i, dMod_i, dFdiv_i, dPow_i, dLt_i, dLe_i, dGt_i, dGe_i, dLt_s, dLe_s, dGt_s, dGe_s, dEq_i, dEq_s, dEq_b, dEq_is, dEq_si, dEq_ni, dEq_in, dEq_sn, dEq_ns, dNe_i, dNe_s, dNe_b, dNe_is, dNe_si, dNe_ni, dNe_in, dIs_b, dIs_n, dIsNot_b, dIsNot_n, dIx_l, dIx_t, dSl_l, dSl_t, dEq_ti, dEq_li, D.isN, atI_0, atI_1, atI_2, atI_3, atI_4, atI_5, atI_map, map_int_inj, map_str_inj,
  fLen_t, fLen_l, fLen_s, fInt_i, fInt_b, fTup_l, fTup_t, fList_l, fList_t, fMax2_i, fMin2_i, fAbs_i, isi_int_int, isi_int_bool, isi_int_str, isi_int_tup, isi_int_lst, isi_bl_int, isi_bl_bool, isi_bl_str, isi_bl_tup, isi_str_int, isi_str_bool, isi_str_str, isi_str_tup, isi_tup_int, isi_tup_bool, isi_tup_str, isi_tup_tup, isi_lst_int, isi_lst_bool, isi_lst_str, isi_lst_tup, isi_lst_lst, isi_non_int, isi_non_bool, isi_non_str, isi_non_tup, items_t, items_l,
  List.getElem?_cons_zero, List.getElem?_cons_succ, List.set_cons_zero, List.set_cons_succ, List.map_cons, List.map_nil, List.length_cons, List.length_nil, List.cons_append, List.nil_append, List.append_nil, List.replicate_succ, List.replicate_zero, Nat.reduceAdd, Nat.reduceSub, List.head?_cons, List.tail_cons, List.take_succ_cons, List.take_zero, List.take_nil,
  Option.some.injEq, Option.map_some, Option.map_none, exists_eq_left', exists_eq_left, Rv.d.injEq, Rv.o.injEq, D.int.injEq, D.bl.injEq, D.str.injEq, D.tup.injEq, D.lst.injEq, MO.lst.injEq, List.cons.injEq, and_true, true_and, and_assoc, exists_and_left, decide_eq_true_eq, if_true, Bool.true_eq_false, Bool.false_eq_true, if_false, reduceIte, Bool.not_true, Bool.not_false, eq_self, exists_const, List.filterMap_cons_some, List.filterMap_nil, List.filterMap_cons, and_self, CMul_iff, or_true, true_or, Int.reduceLT, Int.reduceLE, Int.reduceToNat, Int.reduceNeg, Int.reduceSub, Int.reduceAdd, Int.reducePow, Nat.reducePow, Int.reduceMul, ixN_def, Int.cast_ofNat_Int, Int.reduceEq, decide_true, decide_false, dMul_i, dPow_i, strD, reduceCtorEq, ite_true, ite_false, Nat.reduceLT, Nat.reduceLeDiff, Int.reduceAbs, false_and, and_false, or_false, false_or, exists_false, c__law_same, w1, w2, w3, w4, Int.reduceLT]
    refine ⟨same_b _, for_cons ?_⟩
    simp only [sSeq, sNil, sIf, sSet, sAsg, sPar, sPar3, sRet, sRetN, sExpr, sBreak, sCont, sSetIx, wVar, wC, wOp, wChain, wTb, wAnd, wOr, wNotT, wAndV, wOrV, wNotV, wIf, wNil, wCons, wTup, wLst, wLstO, wSl, wNoPart, wPart, wCB, wNeg, wOrT, wTruth, wJoin, wLc, sFor, wipeE, wKw, wYes, wCall, wCallO, wApp, iL, iT, iR1, iR2, iZ, iS, gN, gsNil, gsCons, gTn, endsOf, retR_d, retR_o, sFrz, frz_d, frz_o0, frz_o1, frz_o10, tru_l, tru_t, tru_b, tru_i, tru_n, List.eraseIdx_cons_zero, List.eraseIdx_cons_succ, exists_eq', exists_eq, shf_d, bck_d, toC_nil, toC_d, toC_o, ds_nil, ds_cons, dats_nil, dats_d, dat_d, dat_o0, dat_o1, dat_o2, startE, kg, cutE, cut1_d, cut1_n, cut1_o0, cut1_o1, zipA,
  dAdd_i, dI0_i, dMod_i, dFdiv_i, dPow_i, dLt_i, dLe_i, dGt_i, dGe_i, dLt_s, dLe_s, dGt_s, dGe_s, dEq_i, dEq_s, dEq_b, dEq_is, dEq_si, dEq_ni, dEq_in, dEq_sn, dEq_ns, dNe_i, dNe_s, dNe_b, dNe_is, dNe_si, dNe_ni, dNe_in, dIs_b, dIs_n, dIsNot_b, dIsNot_n, dIx_l, dIx_t, dSl_l, dSl_t, dEq_ti, dEq_li, D.isN, atI_0, atI_1, atI_2, atI_3, atI_4, atI_5, atI_map, map_int_inj, map_str_inj,
  fLen_t, fLen_l, fLen_s, fInt_i, fInt_b, fTup_l, fTup_t, fList_l, fList_t, fMax2_i, fMin2_i, fAbs_i, isi_int_int, isi_int_bool, isi_int_str, isi_int_tup, isi_int_lst, isi_bl_int, isi_bl_bool, isi_bl_str, isi_bl_tup, isi_str_int, isi_str_bool, isi_str_str, isi_str_tup, isi_tup_int, isi_tup_bool, isi_tup_str, isi_tup_tup, isi_lst_int, isi_lst_bool, isi_lst_str, isi_lst_tup, isi_lst_lst, isi_non_int, isi_non_bool, isi_non_str, isi_non_tup, items_t, items_l,
  List.getElem?_cons_zero, List.getElem?_cons_succ, List.set_cons_zero, List.set_cons_succ, List.map_cons, List.map_nil, List.length_cons, List.length_nil, List.cons_append, List.nil_append, List.append_nil, List.replicate_succ, List.replicate_zero, Nat.reduceAdd, Nat.reduceSub, List.head?_cons, List.tail_cons, List.take_succ_cons, List.take_zero, List.take_nil,
  Option.some.injEq, Option.map_some, Option.map_none, exists_eq_left', exists_eq_left, Rv.d.injEq, Rv.o.injEq, D.int.injEq, D.bl.injEq, D.str.injEq, D.tup.injEq, D.lst.injEq, MO.lst.injEq, List.cons.injEq, and_true, true_and, and_assoc, exists_and_left, decide_eq_true_eq, if_true, Bool.true_eq_false, Bool.false_eq_true, if_false, reduceIte, Bool.not_true, Bool.not_false, eq_self, exists_const, List.filterMap_cons_some, List.filterMap_nil, List.filterMap_cons, and_self, CMul_iff, or_true, true_or, Int.reduceLT, Int.reduceLE, Int.reduceToNat, Int.reduceNeg, Int.reduceSub, Int.reduceAdd, Int.reducePow, Nat.reducePow, Int.reduceMul, ixN_def, Int.cast_ofNat_Int, Int.reduceEq, decide_true, decide_false, dMul_i, dPow_i, strD, reduceCtorEq, ite_true, ite_false, Nat.reduceLT, Nat.reduceLeDiff, Int.reduceAbs, false_and, and_false, or_false, false_or, exists_false, c__law_same, w1, w2, w3, w4, Int.reduceLT]
    refine ⟨same_b _, for_cons ?_⟩
    simp only [sSeq, sNil, sIf, sSet, sAsg, sPar, sPar3, sRet, sRetN, sExpr, sBreak, sCont, sSetIx, wVar, wC, wOp, wChain, wTb, wAnd, wOr, wNotT, wAndV, wOrV, wNotV, wIf, wNil, wCons, wTup, wLst, wLstO, wSl, wNoPart, wPart, wCB, wNeg, wOrT, wTruth, wJoin, wLc, sFor, wipeE, wKw, wYes, wCall, wCallO, wApp, iL, iT, iR1, iR2, iZ, iS, gN, gsNil, gsCons, gTn, endsOf, retR_d, retR_o, sFrz, frz_d, frz_o0, frz_o1, frz_o10, tru_l, tru_t, tru_b, tru_i, tru_n, List.eraseIdx_cons_zero, List.eraseIdx_cons_succ, exists_eq', exists_eq, shf_d, bck_d, toC_nil, toC_d, toC_o, ds_nil, ds_cons, dats_nil, dats_d, dat_d, dat_o0, dat_o1, dat_o2, startE, kg, cutE, cut1_d, cut1_n, cut1_o0, cut1_o1, zipA,
  dAdd_i, dI0_i, dMod_i, dFdiv_i, dPow_i, dLt_i, dLe_i, dGt_i, dGe_i, dLt_s, dLe_s, dGt_s, dGe_s, dEq_i, dEq_s, dEq_b, dEq_is, dEq_si, dEq_ni, dEq_in, dEq_sn, dEq_ns, dNe_i, dNe_s, dNe_b, dNe_is, dNe_si, dNe_ni, dNe_in, dIs_b, dIs_n, dIsNot_b, dIsNot_n, dIx_l, dIx_t, dSl_l, dSl_t, dEq_ti, dEq_li, D.isN, atI_0, atI_1, atI_2, atI_3, atI_4, atI_5, atI_map, map_int_inj, map_str_inj,
  fLen_t, fLen_l, fLen_s, fInt_i, fInt_b, fTup_l, fTup_t, fList_l, fList_t, fMax2_i, fMin2_i, fAbs_i, isi_int_int, isi_int_bool, isi_int_str, isi_int_tup, isi_int_lst, isi_bl_int, isi_bl_bool, isi_bl_str, isi_bl_tup, isi_str_int, isi_str_bool, isi_str_str, isi_str_tup, isi_tup_int, isi_tup_bool, isi_tup_str, isi_tup_tup, isi_lst_int, isi_lst_bool, isi_lst_str, isi_lst_tup, isi_lst_lst, isi_non_int, isi_non_bool, isi_non_str, isi_non_tup, items_t, items_l,
  List.getElem?_cons_zero, List.getElem?_cons_succ, List.set_cons_zero, List.set_cons_succ, List.map_cons, List.map_nil, List.length_cons, List.length_nil, List.cons_append, List.nil_append, List.append_nil, List.replicate_succ, List.replicate_zero, Nat.reduceAdd, Nat.reduceSub, List.head?_cons, List.tail_cons, List.take_succ_cons, List.take_zero, List.take_nil,
  Option.some.injEq, Option.map_some, Option.map_none, exists_eq_left', exists_eq_left, Rv.d.injEq, Rv.o.injEq, D.int.injEq, D.bl.injEq, D.str.injEq, D.tup.injEq, D.lst.injEq, MO.lst.injEq, List.cons.injEq, and_true, true_and, and_assoc, exists_and_left, decide_eq_true_eq, if_true, Bool.true_eq_false, Bool.false_eq_true, if_false, reduceIte, Bool.not_true, Bool.not_false, eq_self, exists_const, List.filterMap_cons_some, List.filterMap_nil, List.filterMap_cons, and_self, CMul_iff, or_true, true_or, Int.reduceLT, Int.reduceLE, Int.reduceToNat, Int.reduceNeg, Int.reduceSub, Int.reduceAdd, Int.reducePow, Nat.reducePow, Int.reduceMul, ixN_def, Int.cast_ofNat_Int, Int.reduceEq, decide_true, decide_false, dMul_i, dPow_i, strD, reduceCtorEq, ite_true, ite_false, Nat.reduceLT, Nat.reduceLeDiff, Int.reduceAbs, false_and, and_false, or_false, false_or, exists_false, c__law_same, w1, w2, w3, w4, Int.reduceLT]
    refine ⟨same_b _, for_cons ?_⟩
    simp only [sSeq, sNil, sIf, sSet, sAsg, sPar, sPar3, sRet, sRetN, sExpr, sBreak, sCont, sSetIx, wVar, wC, wOp, wChain, wTb, wAnd, wOr, wNotT, wAndV, wOrV, wNotV, wIf, wNil, wCons, wTup, wLst, wLstO, wSl, wNoPart, wPart, wCB, wNeg, wOrT, wTruth, wJoin, wLc, sFor, wipeE, wKw, wYes, wCall, wCallO, wApp, iL, iT, iR1, iR2, iZ, iS, gN, gsNil, gsCons, gTn, endsOf, retR_d, retR_o, sFrz, frz_d, frz_o0, frz_o1, frz_o10, tru_l, tru_t, tru_b, tru_i, tru_n, List.eraseIdx_cons_zero, List.eraseIdx_cons_succ, exists_eq', exists_eq, shf_d, bck_d, toC_nil, toC_d, toC_o, ds_nil, ds_cons, dats_nil, dats_d, dat_d, dat_o0, dat_o1, dat_o2, startE, kg, cutE, cut1_d, cut1_n, cut1_o0, cut1_o1, zipA,
  dAdd_i, dI0_i, dMod_i, dFdiv_i, dPow_i, dLt_i, dLe_i, dGt_i, dGe_i, dLt_s, dLe_s, dGt_s, dGe_s, dEq_i, dEq_s, dEq_b, dEq_is, dEq_si, dEq_ni, dEq_in, dEq_sn, dEq_ns, dNe_i, dNe_s, dNe_b, dNe_is, dNe_si, dNe_ni, dNe_in, dIs_b, dIs_n, dIsNot_b, dIsNot_n, dIx_l, dIx_t, dSl_l, dSl_t, dEq_ti, dEq_li, D.isN, atI_0, atI_1, atI_2, atI_3, atI_4, atI_5, atI_map, map_int_inj, map_str_inj,
  fLen_t, fLen_l, fLen_s, fInt_i, fInt_b, fTup_l, fTup_t, fList_l, fList_t, fMax2_i, fMin2_i, fAbs_i, isi_int_int, isi_int_bool, isi_int_str, isi_int_tup, isi_int_lst, isi_bl_int, isi_bl_bool, isi_bl_str, isi_bl_tup, isi_str_int, isi_str_bool, isi_str_str, isi_str_tup, isi_tup_int, isi_tup_bool, isi_tup_str, isi_tup_tup, isi_lst_int, isi_lst_bool, isi_lst_str, isi_lst_tup, isi_lst_lst, isi_non_int, isi_non_bool, isi_non_str, isi_non_tup, items_t, items_l,
  List.getElem?_cons_zero, List.getElem?_cons_succ, List.set_cons_zero, List.set_cons_succ, List.map_cons, List.map_nil, List.length_cons, List.length_nil, List.cons_append, List.nil_append, List.append_nil, List.replicate_succ, List.replicate_zero, Nat.reduceAdd, Nat.reduceSub, List.head?_cons, List.tail_cons, List.take_succ_cons, List.take_zero, List.take_nil,
  Option.some.injEq, Option.map_some, Option.map_none, exists_eq_left', exists_eq_left, Rv.d.injEq, Rv.o.injEq, D.int.injEq, D.bl.injEq, D.str.injEq, D.tup.injEq, D.lst.injEq, MO.lst.injEq, List.cons.injEq, and_true, true_and, and_assoc, exists_and_left, decide_eq_true_eq, if_true, Bool.true_eq_false, Bool.false_eq_true, if_false, reduceIte, Bool.not_true, Bool.not_false, eq_self, exists_const, List.filterMap_cons_some, List.filterMap_nil, List.filterMap_cons, and_self, CMul_iff, or_true, true_or, Int.reduceLT, Int.reduceLE, Int.reduceToNat, Int.reduceNeg, Int.reduceSub, Int.reduceAdd, Int.reducePow, Nat.reducePow, Int.reduceMul, ixN_def, Int.cast_ofNat_Int, Int.reduceEq, decide_true, decide_false, dMul_i, dPow_i, strD, reduceCtorEq, ite_true, ite_false, Nat.reduceLT, Nat.reduceLeDiff, Int.reduceAbs, false_and, and_false, or_false, false_or, exists_false, c__law_same, w1, w2, w3, w4, Int.reduceLT]
    refine ⟨same_b _, for_nil ?_⟩
    simp only [sSeq, sNil, sIf, sSet, sAsg, sPar, sPar3, sRet, sRetN, sExpr, sBreak, sCont, sSetIx, wVar, wC, wOp, wChain, wTb, wAnd, wOr, wNotT, wAndV, wOrV, wNotV, wIf, wNil, wCons, wTup, wLst, wLstO, wSl, wNoPart, wPart, wCB, wNeg, wOrT, wTruth, wJoin, wLc, sFor, wipeE, wKw, wYes, wCall, wCallO, wApp, iL, iT, iR1, iR2, iZ, iS, gN, gsNil, gsCons, gTn, endsOf, retR_d, retR_o, sFrz, frz_d, frz_o0, frz_o1, frz_o10, tru_l, tru_t, tru_b, tru_i, tru_n, List.eraseIdx_cons_zero, List.eraseIdx_cons_succ, exists_eq', exists_eq, shf_d, bck_d, toC_nil, toC_d, toC_o, ds_nil, ds_cons, dats_nil, dats_d, dat_d, dat_o0, dat_o1, dat_o2, startE, kg, cutE, cut1_d, cut1_n, cut1_o0, cut1_o1, zipA,
  dAdd_i, dI0_i, dMod_i, dFdiv_i, dPow_i, dLt_i, dLe_i, dGt_i, dGe_i, dLt_s, dLe_s, dGt_s, dGe_s, dEq_i, dEq_s, dEq_b, dEq_is, dEq_si, dEq_ni, dEq_in, dEq_sn, dEq_ns, dNe_i, dNe_s, dNe_b, dNe_is, dNe_si, dNe_ni, dNe_in, dIs_b, dIs_n, dIsNot_b, dIsNot_n, dIx_l, dIx_t, dSl_l, dSl_t, dEq_ti, dEq_li, D.isN, atI_0, atI_1, atI_2, atI_3, atI_4, atI_5, atI_map, map_int_inj, map_str_inj,
  fLen_t, fLen_l, fLen_s, fInt_i, fInt_b, fTup_l, fTup_t, fList_l, fList_t, fMax2_i, fMin2_i, fAbs_i, isi_int_int, isi_int_bool, isi_int_str, isi_int_tup, isi_int_lst, isi_bl_int, isi_bl_bool, isi_bl_str, isi_bl_tup, isi_str_int, isi_str_bool, isi_str_str, isi_str_tup, isi_tup_int, isi_tup_bool, isi_tup_str, isi_tup_tup, isi_lst_int, isi_lst_bool, isi_lst_str, isi_lst_tup, isi_lst_lst, isi_non_int, isi_non_bool, isi_non_str, isi_non_tup, items_t, items_l,
  List.getElem?_cons_zero, List.getElem?_cons_succ, List.set_cons_zero, List.set_cons_succ, List.map_cons, List.map_nil, List.length_cons, List.length_nil, List.cons_append, List.nil_append, List.append_nil, List.replicate_succ, List.replicate_zero, Nat.reduceAdd, Nat.reduceSub, List.head?_cons, List.tail_cons, List.take_succ_cons, List.take_zero, List.take_nil,
  Option.some.injEq, Option.map_some, Option.map_none, exists_eq_left', exists_eq_left, Rv.d.injEq, Rv.o.injEq, D.int.injEq, D.bl.injEq, D.str.injEq, D.tup.injEq, D.lst.injEq, MO.lst.injEq, List.cons.injEq, and_true, true_and, and_assoc, exists_and_left, decide_eq_true_eq, if_true, Bool.true_eq_false, Bool.false_eq_true, if_false, reduceIte, Bool.not_true, Bool.not_false, eq_self, exists_const, List.filterMap_cons_some, List.filterMap_nil, List.filterMap_cons, and_self, CMul_iff, or_true, true_or, Int.reduceLT, Int.reduceLE, Int.reduceToNat, Int.reduceNeg, Int.reduceSub, Int.reduceAdd, Int.reducePow, Nat.reducePow, Int.reduceMul, ixN_def, Int.cast_ofNat_Int, Int.reduceEq, decide_true, decide_false, dMul_i, dPow_i, strD, reduceCtorEq, ite_true, ite_false, Nat.reduceLT, Nat.reduceLeDiff, Int.reduceAbs, false_and, and_false, or_false, false_or, exists_false]
    refine ⟨sz (by omega), n + 23 * i + 20, t2, one.length, rfl, rfl, ht2, by omega, by omega, fun k t3 k0 k1 ht3 => ?_⟩
    obtain ⟨k, rfl⟩ := Int.eq_ofNat_of_zero_le k0
    simp only [sSeq, sNil, sIf, sSet, sAsg, sPar, sPar3, sRet, sRetN, sExpr, sBreak, sCont, sSetIx, wVar, wC, wOp, wChain, wTb, wAnd, wOr, wNotT, wAndV, wOrV, wNotV, wIf, wNil, wCons, wTup, wLst, wLstO, wSl, wNoPart, wPart, wCB, wNeg, wOrT, wTruth, wJoin, wLc, sFor, wipeE, wKw, wYes, wCall, wCallO, wApp, iL, iT, iR1, iR2, iZ, iS, gN, gsNil, gsCons, gTn, endsOf, retR_d, retR_o, sFrz, frz_d, frz_o0, frz_o1, frz_o10, tru_l, tru_t, tru_b, tru_i, tru_n, List.eraseIdx_cons_zero, List.eraseIdx_cons_succ, exists_eq', exists_eq, shf_d, bck_d, toC_nil, toC_d, toC_o, ds_nil, ds_cons, dats_nil, dats_d, dat_d, dat_o0, dat_o1, dat_o2, startE, kg, cutE, cut1_d, cut1_n, cut1_o0, cut1_o1, zipA,
  dAdd_i, dI0_i, dMod_i, dFdiv_i, dPow_i, dLt_i, dLe_i, dGt_i, dGe_i, dLt_s, dLe_s, dGt_s, dGe_s, dEq_i, dEq_s, dEq_b, dEq_is, dEq_si, dEq_ni, dEq_in, dEq_sn, dEq_ns, dNe_i, dNe_s, dNe_b, dNe_is, dNe_si, dNe_ni, dNe_in, dIs_b, dIs_n, dIsNot_b, dIsNot_n, dIx_l, dIx_t, dSl_l, dSl_t, dEq_ti, dEq_li, D.isN, atI_0, atI_1, atI_2, atI_3, atI_4, atI_5, atI_map, map_int_inj, map_str_inj,
  fLen_t, fLen_l, fLen_s, fInt_i, fInt_b, fTup_l, fTup_t, fList_l, fList_t, fMax2_i, fMin2_i, fAbs_i, isi_int_int, isi_int_bool, isi_int_str, isi_int_tup, isi_int_lst, isi_bl_int, isi_bl_bool, isi_bl_str, isi_bl_tup, isi_str_int, isi_str_bool, isi_str_str, isi_str_tup, isi_tup_int, isi_tup_bool, isi_tup_str, isi_tup_tup, isi_lst_int, isi_lst_bool, isi_lst_str, isi_lst_tup, isi_lst_lst, isi_non_int, isi_non_bool, isi_non_str, isi_non_tup, items_t, items_l,
  List.getElem?_cons_zero, List.getElem?_cons_succ, List.set_cons_zero, List.set_cons_succ, List.map_cons, List.map_nil, List.length_cons, List.length_nil, List.cons_append, List.nil_append, List.append_nil, List.replicate_succ, List.replicate_zero, Nat.reduceAdd, Nat.reduceSub, List.head?_cons, List.tail_cons, List.take_succ_cons, List.take_zero, List.take_nil,
  Option.some.injEq, Option.map_some, Option.map_none, exists_eq_left', exists_eq_left, Rv.d.injEq, Rv.o.injEq, D.int.injEq, D.bl.injEq, D.str.injEq, D.tup.injEq, D.lst.injEq, MO.lst.injEq, List.cons.injEq, and_true, true_and, and_assoc, exists_and_left, decide_eq_true_eq, if_true, Bool.true_eq_false, Bool.false_eq_true, if_false, reduceIte, Bool.not_true, Bool.not_false, eq_self, exists_const, List.filterMap_cons_some, List.filterMap_nil, List.filterMap_cons, and_self, CMul_iff, or_true, true_or, Int.reduceLT, Int.reduceLE, Int.reduceToNat, Int.reduceNeg, Int.reduceSub, Int.reduceAdd, Int.reducePow, Nat.reducePow, Int.reduceMul, ixN_def, Int.cast_ofNat_Int, Int.reduceEq, decide_true, decide_false, dMul_i, dPow_i, strD, reduceCtorEq, ite_true, ite_false, Nat.reduceLT, Nat.reduceLeDiff, Int.reduceAbs, false_and, and_false, or_false, false_or, exists_false]
    refine ⟨sz (by decide), n + 23 * i + 21, t3, 11, rfl, rfl, ht3, by omega, by omega, fun q t4 q0 q1 ht4 => ?_⟩
    obtain ⟨sg, hsg⟩ := atI_in (xs := signs) q0 q1
    have hsm := atI_mem hsg
    have hsg' : atI (signs.map D.str) q = some (.str sg) := by rw [atI_map, hsg]; rfl
    simp only [sSeq, sNil, sIf, sSet, sAsg, sPar, sPar3, sRet, sRetN, sExpr, sBreak, sCont, sSetIx, wVar, wC, wOp, wChain, wTb, wAnd, wOr, wNotT, wAndV, wOrV, wNotV, wIf, wNil, wCons, wTup, wLst, wLstO, wSl, wNoPart, wPart, wCB, wNeg, wOrT, wTruth, wJoin, wLc, sFor, wipeE, wKw, wYes, wCall, wCallO, wApp, iL, iT, iR1, iR2, iZ, iS, gN, gsNil, gsCons, gTn, endsOf, retR_d, retR_o, sFrz, frz_d, frz_o0, frz_o1, frz_o10, tru_l, tru_t, tru_b, tru_i, tru_n, List.eraseIdx_cons_zero, List.eraseIdx_cons_succ, exists_eq', exists_eq, shf_d, bck_d, toC_nil, toC_d, toC_o, ds_nil, ds_cons, dats_nil, dats_d, dat_d, dat_o0, dat_o1, dat_o2, startE, kg, cutE, cut1_d, cut1_n, cut1_o0, cut1_o1, zipA,
  dAdd_i, dI0_i, dMod_i, dFdiv_i, dPow_i, dLt_i, dLe_i, dGt_i, dGe_i, dLt_s, dLe_s, dGt_s, dGe_s, dEq_i, dEq_s, dEq_b, dEq_is, dEq_si, dEq_ni, dEq_in, dEq_sn, dEq_ns, dNe_i, dNe_s, dNe_b, dNe_is, dNe_si, dNe_ni, dNe_in, dIs_b, dIs_n, dIsNot_b, dIsNot_n, dIx_l, dIx_t, dSl_l, dSl_t, dEq_ti, dEq_li, D.isN, atI_0, atI_1, atI_2, atI_3, atI_4, atI_5, atI_map, map_int_inj, map_str_inj,
  fLen_t, fLen_l, fLen_s, fInt_i, fInt_b, fTup_l, fTup_t, fList_l, fList_t, fMax2_i, fMin2_i, fAbs_i, isi_int_int, isi_int_bool, isi_int_str, isi_int_tup, isi_int_lst, isi_bl_int, isi_bl_bool, isi_bl_str, isi_bl_tup, isi_str_int, isi_str_bool, isi_str_str, isi_str_tup, isi_tup_int, isi_tup_bool, isi_tup_str, isi_tup_tup, isi_lst_int, isi_lst_bool, isi_lst_str, isi_lst_tup, isi_lst_lst, isi_non_int, isi_non_bool, isi_non_str, isi_non_tup, items_t, items_l,
  List.getElem?_cons_zero, List.getElem?_cons_succ, List.set_cons_zero, List.set_cons_succ, List.map_cons, List.map_nil, List.length_cons, List.length_nil, List.cons_append, List.nil_append, List.append_nil, List.replicate_succ, List.replicate_zero, Nat.reduceAdd, Nat.reduceSub, List.head?_cons, List.tail_cons, List.take_succ_cons, List.take_zero, List.take_nil,
  Option.some.injEq, Option.map_some, Option.map_none, exists_eq_left', exists_eq_left, Rv.d.injEq, Rv.o.injEq, D.int.injEq, D.bl.injEq, D.str.injEq, D.tup.injEq, D.lst.injEq, MO.lst.injEq, List.cons.injEq, and_true, true_and, and_assoc, exists_and_left, decide_eq_true_eq, if_true, Bool.true_eq_false, Bool.false_eq_true, if_false, reduceIte, Bool.not_true, Bool.not_false, eq_self, exists_const, List.filterMap_cons_some, List.filterMap_nil, List.filterMap_cons, and_self, CMul_iff, or_true, true_or, Int.reduceLT, Int.reduceLE, Int.reduceToNat, Int.reduceNeg, Int.reduceSub, Int.reduceAdd, Int.reducePow, Nat.reducePow, Int.reduceMul, ixN_def, Int.cast_ofNat_Int, Int.reduceEq, decide_true, decide_false, dMul_i, dPow_i, strD, reduceCtorEq, ite_true, ite_false, Nat.reduceLT, Nat.reduceLeDiff, Int.reduceAbs, false_and, and_false, or_false, false_or, exists_false, dIx_t]
    rw [show ([D.str (Str.ofString "0"), D.str (Str.ofString "9"), D.str (Str.ofString "A"), D.str (Str.ofString " "), D.str (Str.ofString "_"), D.str (Str.ofString "-"), D.str (Str.ofString "ab"), D.str (Str.ofString "#"), D.str (Str.ofString "~"), D.str (Str.ofString "Q"), D.str (Str.ofString ".")] : List D) = signs.map D.str from rfl, hsg']
    simp only [sSeq, sNil, sIf, sSet, sAsg, sPar, sPar3, sRet, sRetN, sExpr, sBreak, sCont, sSetIx, wVar, wC, wOp, wChain, wTb, wAnd, wOr, wNotT, wAndV, wOrV, wNotV, wIf, wNil, wCons, wTup, wLst, wLstO, wSl, wNoPart, wPart, wCB, wNeg, wOrT, wTruth, wJoin, wLc, sFor, wipeE, wKw, wYes, wCall, wCallO, wApp, iL, iT, iR1, iR2, iZ, iS, gN, gsNil, gsCons, gTn, endsOf, retR_d, retR_o, sFrz, frz_d, frz_o0, frz_o1, frz_o10, tru_l, tru_t, tru_b, tru_i, tru_n, List.eraseIdx_cons_zero, List.eraseIdx_cons_succ, exists_eq', exists_eq, shf_d, bck_d, toC_nil, toC_d, toC_o, ds_nil, ds_cons, dats_nil, dats_d, dat_d, dat_o0, dat_o1, dat_o2, startE, kg, cutE, cut1_d, cut1_n, cut1_o0, cut1_o1, zipA,
  dAdd_i, dI0_i, dMod_i, dFdiv_i, dPow_i, dLt_i, dLe_i, dGt_i, dGe_i, dLt_s, dLe_s, dGt_s, dGe_s, dEq_i, dEq_s, dEq_b, dEq_is, dEq_si, dEq_ni, dEq_in, dEq_sn, dEq_ns, dNe_i, dNe_s, dNe_b, dNe_is, dNe_si, dNe_ni, dNe_in, dIs_b, dIs_n, dIsNot_b, dIsNot_n, dIx_l, dIx_t, dSl_l, dSl_t, dEq_ti, dEq_li, D.isN, atI_0, atI_1, atI_2, atI_3, atI_4, atI_5, atI_map, map_int_inj, map_str_inj,
  fLen_t, fLen_l, fLen_s, fInt_i, fInt_b, fTup_l, fTup_t, fList_l, fList_t, fMax2_i, fMin2_i, fAbs_i, isi_int_int, isi_int_bool, isi_int_str, isi_int_tup, isi_int_lst, isi_bl_int, isi_bl_bool, isi_bl_str, isi_bl_tup, isi_str_int, isi_str_bool, isi_str_str, isi_str_tup, isi_tup_int, isi_tup_bool, isi_tup_str, isi_tup_tup, isi_lst_int, isi_lst_bool, isi_lst_str, isi_lst_tup, isi_lst_lst, isi_non_int, isi_non_bool, isi_non_str, isi_non_tup, items_t, items_l,
  List.getElem?_cons_zero, List.getElem?_cons_succ, List.set_cons_zero, List.set_cons_succ, List.map_cons, List.map_nil, List.length_cons, List.length_nil, List.cons_append, List.nil_append, List.append_nil, List.replicate_succ, List.replicate_zero, Nat.reduceAdd, Nat.reduceSub, List.head?_cons, List.tail_cons, List.take_succ_cons, List.take_zero, List.take_nil,
  Option.some.injEq, Option.map_some, Option.map_none, exists_eq_left', exists_eq_left, Rv.d.injEq, Rv.o.injEq, D.int.injEq, D.bl.injEq, D.str.injEq, D.tup.injEq, D.lst.injEq, MO.lst.injEq, List.cons.injEq, and_true, true_and, and_assoc, exists_and_left, decide_eq_true_eq, if_true, Bool.true_eq_false, Bool.false_eq_true, if_false, reduceIte, Bool.not_true, Bool.not_false, eq_self, exists_const, List.filterMap_cons_some, List.filterMap_nil, List.filterMap_cons, and_self, CMul_iff, or_true, true_or, Int.reduceLT, Int.reduceLE, Int.reduceToNat, Int.reduceNeg, Int.reduceSub, Int.reduceAdd, Int.reducePow, Nat.reducePow, Int.reduceMul, ixN_def, Int.cast_ofNat_Int, Int.reduceEq, decide_true, decide_false, dMul_i, dPow_i, strD, reduceCtorEq, ite_true, ite_false, Nat.reduceLT, Nat.reduceLeDiff, Int.reduceAbs, false_and, and_false, or_false, false_or, exists_false]
    refine ⟨sz (by decide), n + 23 * i + 22, t4, 11, rfl, rfl, ht4, by omega, by omega, fun q t5 p0 p1 ht5 => ?_⟩
    obtain ⟨mk, hmk⟩ := atI_in (xs := marks) p0 p1
    have hmm := atI_mem hmk
    have hmk' : atI (marks.map D.str) q = some (.str mk) := by rw [atI_map, hmk]; rfl
    have hk : k < one.length := by omega
    obtain ⟨sl, sl8, sb, sn⟩ := bent_law one k sg l1 l8 la hk hsm
    obtain ⟨ml, mf⟩ := mark_law other mk o8 hmm
    have e1 : dSl none (some (k : Int)) (.str one) = some (.str (cutS one none (some (k : Int)))) := by rw [dSl_s, if_pos (sz (by omega))]
    have e2 : dSl (some ((k : Int) + 1)) none (.str one) = some (.str (cutS one (some ((k : Int) + 1)) none)) := by rw [dSl_s, if_pos (sz (by omega))]
    have e3 : dAdd (.str (cutS one none (some (k : Int)))) (.str sg) = some (.str (cutS one none (some (k : Int)) ++ sg)) := by rw [dAdd_s, if_pos (sz sl8)]
    have e4 : dAdd (.str (cutS one none (some (k : Int)) ++ sg)) (.str (cutS one (some ((k : Int) + 1)) none)) = some (.str (bent one k sg)) := by rw [dAdd_s, if_pos (sz sl)]; rfl
    have e5 : dAdd (.str other) (.str mk) = some (.str (other ++ mk)) := by rw [dAdd_s, if_pos (sz ml)]
    simp only [sSeq, sNil, sIf, sSet, sAsg, sPar, sPar3, sRet, sRetN, sExpr, sBreak, sCont, sSetIx, wVar, wC, wOp, wChain, wTb, wAnd, wOr, wNotT, wAndV, wOrV, wNotV, wIf, wNil, wCons, wTup, wLst, wLstO, wSl, wNoPart, wPart, wCB, wNeg, wOrT, wTruth, wJoin, wLc, sFor, wipeE, wKw, wYes, wCall, wCallO, wApp, iL, iT, iR1, iR2, iZ, iS, gN, gsNil, gsCons, gTn, endsOf, retR_d, retR_o, sFrz, frz_d, frz_o0, frz_o1, frz_o10, tru_l, tru_t, tru_b, tru_i, tru_n, List.eraseIdx_cons_zero, List.eraseIdx_cons_succ, exists_eq', exists_eq, shf_d, bck_d, toC_nil, toC_d, toC_o, ds_nil, ds_cons, dats_nil, dats_d, dat_d, dat_o0, dat_o1, dat_o2, startE, kg, cutE, cut1_d, cut1_n, cut1_o0, cut1_o1, zipA,
  dAdd_i, dI0_i, dMod_i, dFdiv_i, dPow_i, dLt_i, dLe_i, dGt_i, dGe_i, dLt_s, dLe_s, dGt_s, dGe_s, dEq_i, dEq_s, dEq_b, dEq_is, dEq_si, dEq_ni, dEq_in, dEq_sn, dEq_ns, dNe_i, dNe_s, dNe_b, dNe_is, dNe_si, dNe_ni, dNe_in, dIs_b, dIs_n, dIsNot_b, dIsNot_n, dIx_l, dIx_t, dSl_l, dSl_t, dEq_ti, dEq_li, D.isN, atI_0, atI_1, atI_2, atI_3, atI_4, atI_5, atI_map, map_int_inj, map_str_inj,
  fLen_t, fLen_l, fLen_s, fInt_i, fInt_b, fTup_l, fTup_t, fList_l, fList_t, fMax2_i, fMin2_i, fAbs_i, isi_int_int, isi_int_bool, isi_int_str, isi_int_tup, isi_int_lst, isi_bl_int, isi_bl_bool, isi_bl_str, isi_bl_tup, isi_str_int, isi_str_bool, isi_str_str, isi_str_tup, isi_tup_int, isi_tup_bool, isi_tup_str, isi_tup_tup, isi_lst_int, isi_lst_bool, isi_lst_str, isi_lst_tup, isi_lst_lst, isi_non_int, isi_non_bool, isi_non_str, isi_non_tup, items_t, items_l,
  List.getElem?_cons_zero, List.getElem?_cons_succ, List.set_cons_zero, List.set_cons_succ, List.map_cons, List.map_nil, List.length_cons, List.length_nil, List.cons_append, List.nil_append, List.append_nil, List.replicate_succ, List.replicate_zero, Nat.reduceAdd, Nat.reduceSub, List.head?_cons, List.tail_cons, List.take_succ_cons, List.take_zero, List.take_nil,
  Option.some.injEq, Option.map_some, Option.map_none, exists_eq_left', exists_eq_left, Rv.d.injEq, Rv.o.injEq, D.int.injEq, D.bl.injEq, D.str.injEq, D.tup.injEq, D.lst.injEq, MO.lst.injEq, List.cons.injEq, and_true, true_and, and_assoc, exists_and_left, decide_eq_true_eq, if_true, Bool.true_eq_false, Bool.false_eq_true, if_false, reduceIte, Bool.not_true, Bool.not_false, eq_self, exists_const, List.filterMap_cons_some, List.filterMap_nil, List.filterMap_cons, and_self, CMul_iff, or_true, true_or, Int.reduceLT, Int.reduceLE, Int.reduceToNat, Int.reduceNeg, Int.reduceSub, Int.reduceAdd, Int.reducePow, Nat.reducePow, Int.reduceMul, ixN_def, Int.cast_ofNat_Int, Int.reduceEq, decide_true, decide_false, dMul_i, dPow_i, strD, reduceCtorEq, ite_true, ite_false, Nat.reduceLT, Nat.reduceLeDiff, Int.reduceAbs, false_and, and_false, or_false, false_or, exists_false, dIx_t]
    rw [show ([D.str (Str.ofString "0"), D.str (Str.ofString "a"), D.str (Str.ofString "z"), D.str (Str.ofString " "), D.str (Str.ofString "_"), D.str (Str.ofString "+"), D.str (Str.ofString "*"), D.str (Str.ofString "'"), D.str (Str.ofString ":"), D.str (Str.ofString "q"), D.str (Str.ofString "(")] : List D) = marks.map D.str from rfl, hmk']
    simp only [sSeq, sNil, sIf, sSet, sAsg, sPar, sPar3, sRet, sRetN, sExpr, sBreak, sCont, sSetIx, wVar, wC, wOp, wChain, wTb, wAnd, wOr, wNotT, wAndV, wOrV, wNotV, wIf, wNil, wCons, wTup, wLst, wLstO, wSl, wNoPart, wPart, wCB, wNeg, wOrT, wTruth, wJoin, wLc, sFor, wipeE, wKw, wYes, wCall, wCallO, wApp, iL, iT, iR1, iR2, iZ, iS, gN, gsNil, gsCons, gTn, endsOf, retR_d, retR_o, sFrz, frz_d, frz_o0, frz_o1, frz_o10, tru_l, tru_t, tru_b, tru_i, tru_n, List.eraseIdx_cons_zero, List.eraseIdx_cons_succ, exists_eq', exists_eq, shf_d, bck_d, toC_nil, toC_d, toC_o, ds_nil, ds_cons, dats_nil, dats_d, dat_d, dat_o0, dat_o1, dat_o2, startE, kg, cutE, cut1_d, cut1_n, cut1_o0, cut1_o1, zipA,
  dAdd_i, dI0_i, dMod_i, dFdiv_i, dPow_i, dLt_i, dLe_i, dGt_i, dGe_i, dLt_s, dLe_s, dGt_s, dGe_s, dEq_i, dEq_s, dEq_b, dEq_is, dEq_si, dEq_ni, dEq_in, dEq_sn, dEq_ns, dNe_i, dNe_s, dNe_b, dNe_is, dNe_si, dNe_ni, dNe_in, dIs_b, dIs_n, dIsNot_b, dIsNot_n, dIx_l, dIx_t, dSl_l, dSl_t, dEq_ti, dEq_li, D.isN, atI_0, atI_1, atI_2, atI_3, atI_4, atI_5, atI_map, map_int_inj, map_str_inj,
  fLen_t, fLen_l, fLen_s, fInt_i, fInt_b, fTup_l, fTup_t, fList_l, fList_t, fMax2_i, fMin2_i, fAbs_i, isi_int_int, isi_int_bool, isi_int_str, isi_int_tup, isi_int_lst, isi_bl_int, isi_bl_bool, isi_bl_str, isi_bl_tup, isi_str_int, isi_str_bool, isi_str_str, isi_str_tup, isi_tup_int, isi_tup_bool, isi_tup_str, isi_tup_tup, isi_lst_int, isi_lst_bool, isi_lst_str, isi_lst_tup, isi_lst_lst, isi_non_int, isi_non_bool, isi_non_str, isi_non_tup, items_t, items_l,
  List.getElem?_cons_zero, List.getElem?_cons_succ, List.set_cons_zero, List.set_cons_succ, List.map_cons, List.map_nil, List.length_cons, List.length_nil, List.cons_append, List.nil_append, List.append_nil, List.replicate_succ, List.replicate_zero, Nat.reduceAdd, Nat.reduceSub, List.head?_cons, List.tail_cons, List.take_succ_cons, List.take_zero, List.take_nil,
  Option.some.injEq, Option.map_some, Option.map_none, exists_eq_left', exists_eq_left, Rv.d.injEq, Rv.o.injEq, D.int.injEq, D.bl.injEq, D.str.injEq, D.tup.injEq, D.lst.injEq, MO.lst.injEq, List.cons.injEq, and_true, true_and, and_assoc, exists_and_left, decide_eq_true_eq, if_true, Bool.true_eq_false, Bool.false_eq_true, if_false, reduceIte, Bool.not_true, Bool.not_false, eq_self, exists_const, List.filterMap_cons_some, List.filterMap_nil, List.filterMap_cons, and_self, CMul_iff, or_true, true_or, Int.reduceLT, Int.reduceLE, Int.reduceToNat, Int.reduceNeg, Int.reduceSub, Int.reduceAdd, Int.reducePow, Nat.reducePow, Int.reduceMul, ixN_def, Int.cast_ofNat_Int, Int.reduceEq, decide_true, decide_false, dMul_i, dPow_i, strD, reduceCtorEq, ite_true, ite_false, Nat.reduceLT, Nat.reduceLeDiff, Int.reduceAbs, false_and, and_false, or_false, false_or, exists_false, e1, e2, e3, e4, e5]
    have kb : ∀ s, D.str (bent one k sg) = .str s → s.length ≤ 1000 := fun s e => by cases e; exact sb
    have km : ∀ s, D.str (other ++ mk) = .str s → s.length ≤ 1000 := fun s e => by cases e; rw [len_app]; have := (marks_all mk hmm).1; omega
    by_cases ea : sg = Str.ofString "ab"
    · rw [if_pos ea] at sn ⊢
      refine ⟨sz (by omega), _, rfl, rfl, known_s _, kb, ?_⟩
      rw [sn]
      simp only [sSeq, sNil, sIf, sSet, sAsg, sPar, sPar3, sRet, sRetN, sExpr, sBreak, sCont, sSetIx, wVar, wC, wOp, wChain, wTb, wAnd, wOr, wNotT, wAndV, wOrV, wNotV, wIf, wNil, wCons, wTup, wLst, wLstO, wSl, wNoPart, wPart, wCB, wNeg, wOrT, wTruth, wJoin, wLc, sFor, wipeE, wKw, wYes, wCall, wCallO, wApp, iL, iT, iR1, iR2, iZ, iS, gN, gsNil, gsCons, gTn, endsOf, retR_d, retR_o, sFrz, frz_d, frz_o0, frz_o1, frz_o10, tru_l, tru_t, tru_b, tru_i, tru_n, List.eraseIdx_cons_zero, List.eraseIdx_cons_succ, exists_eq', exists_eq, shf_d, bck_d, toC_nil, toC_d, toC_o, ds_nil, ds_cons, dats_nil, dats_d, dat_d, dat_o0, dat_o1, dat_o2, startE, kg, cutE, cut1_d, cut1_n, cut1_o0, cut1_o1, zipA,
  dAdd_i, dI0_i, dMod_i, dFdiv_i, dPow_i, dLt_i, dLe_i, dGt_i, dGe_i, dLt_s, dLe_s, dGt_s, dGe_s, dEq_i, dEq_s, dEq_b, dEq_is, dEq_si, dEq_ni, dEq_in, dEq_sn, dEq_ns, dNe_i, dNe_s, dNe_b, dNe_is, dNe_si, dNe_ni, dNe_in, dIs_b, dIs_n, dIsNot_b, dIsNot_n, dIx_l, dIx_t, dSl_l, dSl_t, dEq_ti, dEq_li, D.isN, atI_0, atI_1, atI_2, atI_3, atI_4, atI_5, atI_map, map_int_inj, map_str_inj,
  fLen_t, fLen_l, fLen_s, fInt_i, fInt_b, fTup_l, fTup_t, fList_l, fList_t, fMax2_i, fMin2_i, fAbs_i, isi_int_int, isi_int_bool, isi_int_str, isi_int_tup, isi_int_lst, isi_bl_int, isi_bl_bool, isi_bl_str, isi_bl_tup, isi_str_int, isi_str_bool, isi_str_str, isi_str_tup, isi_tup_int, isi_tup_bool, isi_tup_str, isi_tup_tup, isi_lst_int, isi_lst_bool, isi_lst_str, isi_lst_tup, isi_lst_lst, isi_non_int, isi_non_bool, isi_non_str, isi_non_tup, items_t, items_l,
  List.getElem?_cons_zero, List.getElem?_cons_succ, List.set_cons_zero, List.set_cons_succ, List.map_cons, List.map_nil, List.length_cons, List.length_nil, List.cons_append, List.nil_append, List.append_nil, List.replicate_succ, List.replicate_zero, Nat.reduceAdd, Nat.reduceSub, List.head?_cons, List.tail_cons, List.take_succ_cons, List.take_zero, List.take_nil,
  Option.some.injEq, Option.map_some, Option.map_none, exists_eq_left', exists_eq_left, Rv.d.injEq, Rv.o.injEq, D.int.injEq, D.bl.injEq, D.str.injEq, D.tup.injEq, D.lst.injEq, MO.lst.injEq, List.cons.injEq, and_true, true_and, and_assoc, exists_and_left, decide_eq_true_eq, if_true, Bool.true_eq_false, Bool.false_eq_true, if_false, reduceIte, Bool.not_true, Bool.not_false, eq_self, exists_const, List.filterMap_cons_some, List.filterMap_nil, List.filterMap_cons, and_self, CMul_iff, or_true, true_or, Int.reduceLT, Int.reduceLE, Int.reduceToNat, Int.reduceNeg, Int.reduceSub, Int.reduceAdd, Int.reducePow, Nat.reducePow, Int.reduceMul, ixN_def, Int.cast_ofNat_Int, Int.reduceEq, decide_true, decide_false, dMul_i, dPow_i, strD, reduceCtorEq, ite_true, ite_false, Nat.reduceLT, Nat.reduceLeDiff, Int.reduceAbs, false_and, and_false, or_false, false_or, exists_false, c__law_same]
      refine ⟨same_b _, _, rfl, rfl, known_s _, km, ?_⟩
      rw [mf]
      simp only [sSeq, sNil, sIf, sSet, sAsg, sPar, sPar3, sRet, sRetN, sExpr, sBreak, sCont, sSetIx, wVar, wC, wOp, wChain, wTb, wAnd, wOr, wNotT, wAndV, wOrV, wNotV, wIf, wNil, wCons, wTup, wLst, wLstO, wSl, wNoPart, wPart, wCB, wNeg, wOrT, wTruth, wJoin, wLc, sFor, wipeE, wKw, wYes, wCall, wCallO, wApp, iL, iT, iR1, iR2, iZ, iS, gN, gsNil, gsCons, gTn, endsOf, retR_d, retR_o, sFrz, frz_d, frz_o0, frz_o1, frz_o10, tru_l, tru_t, tru_b, tru_i, tru_n, List.eraseIdx_cons_zero, List.eraseIdx_cons_succ, exists_eq', exists_eq, shf_d, bck_d, toC_nil, toC_d, toC_o, ds_nil, ds_cons, dats_nil, dats_d, dat_d, dat_o0, dat_o1, dat_o2, startE, kg, cutE, cut1_d, cut1_n, cut1_o0, cut1_o1, zipA,
  dAdd_i, dI0_i, dMod_i, dFdiv_i, dPow_i, dLt_i, dLe_i, dGt_i, dGe_i, dLt_s, dLe_s, dGt_s, dGe_s, dEq_i, dEq_s, dEq_b, dEq_is, dEq_si, dEq_ni, dEq_in, dEq_sn, dEq_ns, dNe_i, dNe_s, dNe_b, dNe_is, dNe_si, dNe_ni, dNe_in, dIs_b, dIs_n, dIsNot_b, dIsNot_n, dIx_l, dIx_t, dSl_l, dSl_t, dEq_ti, dEq_li, D.isN, atI_0, atI_1, atI_2, atI_3, atI_4, atI_5, atI_map, map_int_inj, map_str_inj,
  fLen_t, fLen_l, fLen_s, fInt_i, fInt_b, fTup_l, fTup_t, fList_l, fList_t, fMax2_i, fMin2_i, fAbs_i, isi_int_int, isi_int_bool, isi_int_str, isi_int_tup, isi_int_lst, isi_bl_int, isi_bl_bool, isi_bl_str, isi_bl_tup, isi_str_int, isi_str_bool, isi_str_str, isi_str_tup, isi_tup_int, isi_tup_bool, isi_tup_str, isi_tup_tup, isi_lst_int, isi_lst_bool, isi_lst_str, isi_lst_tup, isi_lst_lst, isi_non_int, isi_non_bool, isi_non_str, isi_non_tup, items_t, items_l,
  List.getElem?_cons_zero, List.getElem?_cons_succ, List.set_cons_zero, List.set_cons_succ, List.map_cons, List.map_nil, List.length_cons, List.length_nil, List.cons_append, List.nil_append, List.append_nil, List.replicate_succ, List.replicate_zero, Nat.reduceAdd, Nat.reduceSub, List.head?_cons, List.tail_cons, List.take_succ_cons, List.take_zero, List.take_nil,
  Option.some.injEq, Option.map_some, Option.map_none, exists_eq_left', exists_eq_left, Rv.d.injEq, Rv.o.injEq, D.int.injEq, D.bl.injEq, D.str.injEq, D.tup.injEq, D.lst.injEq, MO.lst.injEq, List.cons.injEq, and_true, true_and, and_assoc, exists_and_left, decide_eq_true_eq, if_true, Bool.true_eq_false, Bool.false_eq_true, if_false, reduceIte, Bool.not_true, Bool.not_false, eq_self, exists_const, List.filterMap_cons_some, List.filterMap_nil, List.filterMap_cons, and_self, CMul_iff, or_true, true_or, Int.reduceLT, Int.reduceLE, Int.reduceToNat, Int.reduceNeg, Int.reduceSub, Int.reduceAdd, Int.reducePow, Nat.reducePow, Int.reduceMul, ixN_def, Int.cast_ofNat_Int, Int.reduceEq, decide_true, decide_false, dMul_i, dPow_i, strD, reduceCtorEq, ite_true, ite_false, Nat.reduceLT, Nat.reduceLeDiff, Int.reduceAbs, false_and, and_false, or_false, false_or, exists_false, c__law_same]
      exact ⟨same_b _, ht5.mono (by omega)⟩
    · rw [if_neg ea] at sn ⊢
      refine ⟨_, rfl, rfl, known_s _, kb, ?_⟩
      rw [sn]
      simp only [sSeq, sNil, sIf, sSet, sAsg, sPar, sPar3, sRet, sRetN, sExpr, sBreak, sCont, sSetIx, wVar, wC, wOp, wChain, wTb, wAnd, wOr, wNotT, wAndV, wOrV, wNotV, wIf, wNil, wCons, wTup, wLst, wLstO, wSl, wNoPart, wPart, wCB, wNeg, wOrT, wTruth, wJoin, wLc, sFor, wipeE, wKw, wYes, wCall, wCallO, wApp, iL, iT, iR1, iR2, iZ, iS, gN, gsNil, gsCons, gTn, endsOf, retR_d, retR_o, sFrz, frz_d, frz_o0, frz_o1, frz_o10, tru_l, tru_t, tru_b, tru_i, tru_n, List.eraseIdx_cons_zero, List.eraseIdx_cons_succ, exists_eq', exists_eq, shf_d, bck_d, toC_nil, toC_d, toC_o, ds_nil, ds_cons, dats_nil, dats_d, dat_d, dat_o0, dat_o1, dat_o2, startE, kg, cutE, cut1_d, cut1_n, cut1_o0, cut1_o1, zipA,
  dAdd_i, dI0_i, dMod_i, dFdiv_i, dPow_i, dLt_i, dLe_i, dGt_i, dGe_i, dLt_s, dLe_s, dGt_s, dGe_s, dEq_i, dEq_s, dEq_b, dEq_is, dEq_si, dEq_ni, dEq_in, dEq_sn, dEq_ns, dNe_i, dNe_s, dNe_b, dNe_is, dNe_si, dNe_ni, dNe_in, dIs_b, dIs_n, dIsNot_b, dIsNot_n, dIx_l, dIx_t, dSl_l, dSl_t, dEq_ti, dEq_li, D.isN, atI_0, atI_1, atI_2, atI_3, atI_4, atI_5, atI_map, map_int_inj, map_str_inj,
  fLen_t, fLen_l, fLen_s, fInt_i, fInt_b, fTup_l, fTup_t, fList_l, fList_t, fMax2_i, fMin2_i, fAbs_i, isi_int_int, isi_int_bool, isi_int_str, isi_int_tup, isi_int_lst, isi_bl_int, isi_bl_bool, isi_bl_str, isi_bl_tup, isi_str_int, isi_str_bool, isi_str_str, isi_str_tup, isi_tup_int, isi_tup_bool, isi_tup_str, isi_tup_tup, isi_lst_int, isi_lst_bool, isi_lst_str, isi_lst_tup, isi_lst_lst, isi_non_int, isi_non_bool, isi_non_str, isi_non_tup, items_t, items_l,
  List.getElem?_cons_zero, List.getElem?_cons_succ, List.set_cons_zero, List.set_cons_succ, List.map_cons, List.map_nil, List.length_cons, List.length_nil, List.cons_append, List.nil_append, List.append_nil, List.replicate_succ, List.replicate_zero, Nat.reduceAdd, Nat.reduceSub, List.head?_cons, List.tail_cons, List.take_succ_cons, List.take_zero, List.take_nil,
  Option.some.injEq, Option.map_some, Option.map_none, exists_eq_left', exists_eq_left, Rv.d.injEq, Rv.o.injEq, D.int.injEq, D.bl.injEq, D.str.injEq, D.tup.injEq, D.lst.injEq, MO.lst.injEq, List.cons.injEq, and_true, true_and, and_assoc, exists_and_left, decide_eq_true_eq, if_true, Bool.true_eq_false, Bool.false_eq_true, if_false, reduceIte, Bool.not_true, Bool.not_false, eq_self, exists_const, List.filterMap_cons_some, List.filterMap_nil, List.filterMap_cons, and_self, CMul_iff, or_true, true_or, Int.reduceLT, Int.reduceLE, Int.reduceToNat, Int.reduceNeg, Int.reduceSub, Int.reduceAdd, Int.reducePow, Nat.reducePow, Int.reduceMul, ixN_def, Int.cast_ofNat_Int, Int.reduceEq, decide_true, decide_false, dMul_i, dPow_i, strD, reduceCtorEq, ite_true, ite_false, Nat.reduceLT, Nat.reduceLeDiff, Int.reduceAbs, false_and, and_false, or_false, false_or, exists_false, c__law_same]
      refine ⟨same_b _, _, rfl, rfl, known_s _, km, ?_⟩
      rw [mf]
      simp only [sSeq, sNil, sIf, sSet, sAsg, sPar, sPar3, sRet, sRetN, sExpr, sBreak, sCont, sSetIx, wVar, wC, wOp, wChain, wTb, wAnd, wOr, wNotT, wAndV, wOrV, wNotV, wIf, wNil, wCons, wTup, wLst, wLstO, wSl, wNoPart, wPart, wCB, wNeg, wOrT, wTruth, wJoin, wLc, sFor, wipeE, wKw, wYes, wCall, wCallO, wApp, iL, iT, iR1, iR2, iZ, iS, gN, gsNil, gsCons, gTn, endsOf, retR_d, retR_o, sFrz, frz_d, frz_o0, frz_o1, frz_o10, tru_l, tru_t, tru_b, tru_i, tru_n, List.eraseIdx_cons_zero, List.eraseIdx_cons_succ, exists_eq', exists_eq, shf_d, bck_d, toC_nil, toC_d, toC_o, ds_nil, ds_cons, dats_nil, dats_d, dat_d, dat_o0, dat_o1, dat_o2, startE, kg, cutE, cut1_d, cut1_n, cut1_o0, cut1_o1, zipA,
  dAdd_i, dI0_i, dMod_i, dFdiv_i, dPow_i, dLt_i, dLe_i, dGt_i, dGe_i, dLt_s, dLe_s, dGt_s, dGe_s, dEq_i, dEq_s, dEq_b, dEq_is, dEq_si, dEq_ni, dEq_in, dEq_sn, dEq_ns, dNe_i, dNe_s, dNe_b, dNe_is, dNe_si, dNe_ni, dNe_in, dIs_b, dIs_n, dIsNot_b, dIsNot_n, dIx_l, dIx_t, dSl_l, dSl_t, dEq_ti, dEq_li, D.isN, atI_0, atI_1, atI_2, atI_3, atI_4, atI_5, atI_map, map_int_inj, map_str_inj,
  fLen_t, fLen_l, fLen_s, fInt_i, fInt_b, fTup_l, fTup_t, fList_l, fList_t, fMax2_i, fMin2_i, fAbs_i, isi_int_int, isi_int_bool, isi_int_str, isi_int_tup, isi_int_lst, isi_bl_int, isi_bl_bool, isi_bl_str, isi_bl_tup, isi_str_int, isi_str_bool, isi_str_str, isi_str_tup, isi_tup_int, isi_tup_bool, isi_tup_str, isi_tup_tup, isi_lst_int, isi_lst_bool, isi_lst_str, isi_lst_tup, isi_lst_lst, isi_non_int, isi_non_bool, isi_non_str, isi_non_tup, items_t, items_l,
  List.getElem?_cons_zero, List.getElem?_cons_succ, List.set_cons_zero, List.set_cons_succ, List.map_cons, List.map_nil, List.length_cons, List.length_nil, List.cons_append, List.nil_append, List.append_nil, List.replicate_succ, List.replicate_zero, Nat.reduceAdd, Nat.reduceSub, List.head?_cons, List.tail_cons, List.take_succ_cons, List.take_zero, List.take_nil,
  Option.some.injEq, Option.map_some, Option.map_none, exists_eq_left', exists_eq_left, Rv.d.injEq, Rv.o.injEq, D.int.injEq, D.bl.injEq, D.str.injEq, D.tup.injEq, D.lst.injEq, MO.lst.injEq, List.cons.injEq, and_true, true_and, and_assoc, exists_and_left, decide_eq_true_eq, if_true, Bool.true_eq_false, Bool.false_eq_true, if_false, reduceIte, Bool.not_true, Bool.not_false, eq_self, exists_const, List.filterMap_cons_some, List.filterMap_nil, List.filterMap_cons, and_self, CMul_iff, or_true, true_or, Int.reduceLT, Int.reduceLE, Int.reduceToNat, Int.reduceNeg, Int.reduceSub, Int.reduceAdd, Int.reducePow, Nat.reducePow, Int.reduceMul, ixN_def, Int.cast_ofNat_Int, Int.reduceEq, decide_true, decide_false, dMul_i, dPow_i, strD, reduceCtorEq, ite_true, ite_false, Nat.reduceLT, Nat.reduceLeDiff, Int.reduceAbs, false_and, and_false, or_false, false_or, exists_false, c__law_same]
      exact ⟨same_b _, ht5.mono (by omega)⟩
  · obtain ⟨t, e3, e4, e5, e6, e7, e8, e9, e10, e11, e12, e13, rfl, rfl, g1⟩ := hI
    rw [rng_len] at g1
    simp only [sSeq, sNil, sIf, sSet, sAsg, sPar, sPar3, sRet, sRetN, sExpr, sBreak, sCont, sSetIx, wVar, wC, wOp, wChain, wTb, wAnd, wOr, wNotT, wAndV, wOrV, wNotV, wIf, wNil, wCons, wTup, wLst, wLstO, wSl, wNoPart, wPart, wCB, wNeg, wOrT, wTruth, wJoin, wLc, sFor, wipeE, wKw, wYes, wCall, wCallO, wApp, iL, iT, iR1, iR2, iZ, iS, gN, gsNil, gsCons, gTn, endsOf, retR_d, retR_o, sFrz, frz_d, frz_o0, frz_o1, frz_o10, tru_l, tru_t, tru_b, tru_i, tru_n, List.eraseIdx_cons_zero, List.eraseIdx_cons_succ, exists_eq', exists_eq, shf_d, bck_d, toC_nil, toC_d, toC_o, ds_nil, ds_cons, dats_nil, dats_d, dat_d, dat_o0, dat_o1, dat_o2, startE, kg, cutE, cut1_d, cut1_n, cut1_o0, cut1_o1, zipA,
  dAdd_i, dI0_i, dMod_i, dFdiv_i, dPow_i, dLt_i, dLe_i, dGt_i, dGe_i, dLt_s, dLe_s, dGt_s, dGe_s, dEq_i, dEq_s, dEq_b, dEq_is, dEq_si, dEq_ni, dEq_in, dEq_sn, dEq_ns, dNe_i, dNe_s, dNe_b, dNe_is, dNe_si, dNe_ni, dNe_in, dIs_b, dIs_n, dIsNot_b, dIsNot_n, dIx_l, dIx_t, dSl_l, dSl_t, dEq_ti, dEq_li, D.isN, atI_0, atI_1, atI_2, atI_3, atI_4, atI_5, atI_map, map_int_inj, map_str_inj,
  fLen_t, fLen_l, fLen_s, fInt_i, fInt_b, fTup_l, fTup_t, fList_l, fList_t, fMax2_i, fMin2_i, fAbs_i, isi_int_int, isi_int_bool, isi_int_str, isi_int_tup, isi_int_lst, isi_bl_int, isi_bl_bool, isi_bl_str, isi_bl_tup, isi_str_int, isi_str_bool, isi_str_str, isi_str_tup, isi_tup_int, isi_tup_bool, isi_tup_str, isi_tup_tup, isi_lst_int, isi_lst_bool, isi_lst_str, isi_lst_tup, isi_lst_lst, isi_non_int, isi_non_bool, isi_non_str, isi_non_tup, items_t, items_l,
  List.getElem?_cons_zero, List.getElem?_cons_succ, List.set_cons_zero, List.set_cons_succ, List.map_cons, List.map_nil, List.length_cons, List.length_nil, List.cons_append, List.nil_append, List.append_nil, List.replicate_succ, List.replicate_zero, Nat.reduceAdd, Nat.reduceSub, List.head?_cons, List.tail_cons, List.take_succ_cons, List.take_zero, List.take_nil,
  Option.some.injEq, Option.map_some, Option.map_none, exists_eq_left', exists_eq_left, Rv.d.injEq, Rv.o.injEq, D.int.injEq, D.bl.injEq, D.str.injEq, D.tup.injEq, D.lst.injEq, MO.lst.injEq, List.cons.injEq, and_true, true_and, and_assoc, exists_and_left, decide_eq_true_eq, if_true, Bool.true_eq_false, Bool.false_eq_true, if_false, reduceIte, Bool.not_true, Bool.not_false, eq_self, exists_const, List.filterMap_cons_some, List.filterMap_nil, List.filterMap_cons, and_self, CMul_iff, or_true, true_or, Int.reduceLT, Int.reduceLE, Int.reduceToNat, Int.reduceNeg, Int.reduceSub, Int.reduceAdd, Int.reducePow, Nat.reducePow, Int.reduceMul, ixN_def, Int.cast_ofNat_Int, Int.reduceEq, decide_true, decide_false, dMul_i, dPow_i, strD, reduceCtorEq, ite_true, ite_false, Nat.reduceLT, Nat.reduceLeDiff, Int.reduceAbs, false_and, and_false, or_false, false_or, exists_false]
    refine ⟨sz (by decide), sz (by decide), sz (by decide), sz (by decide), sz (by decide), ?_⟩
    refine ⟨n + 92, t, 18, rfl, rfl, g1, by omega, by omega, fun q t1 q0 q1 ht1 => ?_⟩
    obtain ⟨u, hu⟩ := atI_in (xs := oddW) q0 q1
    obtain ⟨ku, su, bu, nu⟩ := oddW_ok u (atI_mem hu)
    simp only [sSeq, sNil, sIf, sSet, sAsg, sPar, sPar3, sRet, sRetN, sExpr, sBreak, sCont, sSetIx, wVar, wC, wOp, wChain, wTb, wAnd, wOr, wNotT, wAndV, wOrV, wNotV, wIf, wNil, wCons, wTup, wLst, wLstO, wSl, wNoPart, wPart, wCB, wNeg, wOrT, wTruth, wJoin, wLc, sFor, wipeE, wKw, wYes, wCall, wCallO, wApp, iL, iT, iR1, iR2, iZ, iS, gN, gsNil, gsCons, gTn, endsOf, retR_d, retR_o, sFrz, frz_d, frz_o0, frz_o1, frz_o10, tru_l, tru_t, tru_b, tru_i, tru_n, List.eraseIdx_cons_zero, List.eraseIdx_cons_succ, exists_eq', exists_eq, shf_d, bck_d, toC_nil, toC_d, toC_o, ds_nil, ds_cons, dats_nil, dats_d, dat_d, dat_o0, dat_o1, dat_o2, startE, kg, cutE, cut1_d, cut1_n, cut1_o0, cut1_o1, zipA,
  dAdd_i, dI0_i, dMod_i, dFdiv_i, dPow_i, dLt_i, dLe_i, dGt_i, dGe_i, dLt_s, dLe_s, dGt_s, dGe_s, dEq_i, dEq_s, dEq_b, dEq_is, dEq_si, dEq_ni, dEq_in, dEq_sn, dEq_ns, dNe_i, dNe_s, dNe_b, dNe_is, dNe_si, dNe_ni, dNe_in, dIs_b, dIs_n, dIsNot_b, dIsNot_n, dIx_l, dIx_t, dSl_l, dSl_t, dEq_ti, dEq_li, D.isN, atI_0, atI_1, atI_2, atI_3, atI_4, atI_5, atI_map, map_int_inj, map_str_inj,
  fLen_t, fLen_l, fLen_s, fInt_i, fInt_b, fTup_l, fTup_t, fList_l, fList_t, fMax2_i, fMin2_i, fAbs_i, isi_int_int, isi_int_bool, isi_int_str, isi_int_tup, isi_int_lst, isi_bl_int, isi_bl_bool, isi_bl_str, isi_bl_tup, isi_str_int, isi_str_bool, isi_str_str, isi_str_tup, isi_tup_int, isi_tup_bool, isi_tup_str, isi_tup_tup, isi_lst_int, isi_lst_bool, isi_lst_str, isi_lst_tup, isi_lst_lst, isi_non_int, isi_non_bool, isi_non_str, isi_non_tup, items_t, items_l,
  List.getElem?_cons_zero, List.getElem?_cons_succ, List.set_cons_zero, List.set_cons_succ, List.map_cons, List.map_nil, List.length_cons, List.length_nil, List.cons_append, List.nil_append, List.append_nil, List.replicate_succ, List.replicate_zero, Nat.reduceAdd, Nat.reduceSub, List.head?_cons, List.tail_cons, List.take_succ_cons, List.take_zero, List.take_nil,
  Option.some.injEq, Option.map_some, Option.map_none, exists_eq_left', exists_eq_left, Rv.d.injEq, Rv.o.injEq, D.int.injEq, D.bl.injEq, D.str.injEq, D.tup.injEq, D.lst.injEq, MO.lst.injEq, List.cons.injEq, and_true, true_and, and_assoc, exists_and_left, decide_eq_true_eq, if_true, Bool.true_eq_false, Bool.false_eq_true, if_false, reduceIte, Bool.not_true, Bool.not_false, eq_self, exists_const, List.filterMap_cons_some, List.filterMap_nil, List.filterMap_cons, and_self, CMul_iff, or_true, true_or, Int.reduceLT, Int.reduceLE, Int.reduceToNat, Int.reduceNeg, Int.reduceSub, Int.reduceAdd, Int.reducePow, Nat.reducePow, Int.reduceMul, ixN_def, Int.cast_ofNat_Int, Int.reduceEq, decide_true, decide_false, dMul_i, dPow_i, strD, reduceCtorEq, ite_true, ite_false, Nat.reduceLT, Nat.reduceLeDiff, Int.reduceAbs, false_and, and_false, or_false, false_or, exists_false, dIx_t]
    rw [show ([D.str (Str.ofString ""), D.non, D.int 0, D.int 7, D.bl true, D.tup [], D.tup [D.str (Str.ofString "a")], D.lst [D.str (Str.ofString "a")], D.tup [D.str (Str.ofString "A")], D.str (Str.ofString "a b"), D.str (Str.ofString "aA"), D.str (Str.ofString "Aa"), D.str (Str.ofString "a1"), D.str (Str.ofString "A1"), D.str (Str.ofString " a"), D.str (Str.ofString "A "), D.str (Str.ofString "abcdefghi"), D.str (Str.ofString "ABCDEFGHI")] : List D) = oddW from rfl]
    simp only [sSeq, sNil, sIf, sSet, sAsg, sPar, sPar3, sRet, sRetN, sExpr, sBreak, sCont, sSetIx, wVar, wC, wOp, wChain, wTb, wAnd, wOr, wNotT, wAndV, wOrV, wNotV, wIf, wNil, wCons, wTup, wLst, wLstO, wSl, wNoPart, wPart, wCB, wNeg, wOrT, wTruth, wJoin, wLc, sFor, wipeE, wKw, wYes, wCall, wCallO, wApp, iL, iT, iR1, iR2, iZ, iS, gN, gsNil, gsCons, gTn, endsOf, retR_d, retR_o, sFrz, frz_d, frz_o0, frz_o1, frz_o10, tru_l, tru_t, tru_b, tru_i, tru_n, List.eraseIdx_cons_zero, List.eraseIdx_cons_succ, exists_eq', exists_eq, shf_d, bck_d, toC_nil, toC_d, toC_o, ds_nil, ds_cons, dats_nil, dats_d, dat_d, dat_o0, dat_o1, dat_o2, startE, kg, cutE, cut1_d, cut1_n, cut1_o0, cut1_o1, zipA,
  dAdd_i, dI0_i, dMod_i, dFdiv_i, dPow_i, dLt_i, dLe_i, dGt_i, dGe_i, dLt_s, dLe_s, dGt_s, dGe_s, dEq_i, dEq_s, dEq_b, dEq_is, dEq_si, dEq_ni, dEq_in, dEq_sn, dEq_ns, dNe_i, dNe_s, dNe_b, dNe_is, dNe_si, dNe_ni, dNe_in, dIs_b, dIs_n, dIsNot_b, dIsNot_n, dIx_l, dIx_t, dSl_l, dSl_t, dEq_ti, dEq_li, D.isN, atI_0, atI_1, atI_2, atI_3, atI_4, atI_5, atI_map, map_int_inj, map_str_inj,
  fLen_t, fLen_l, fLen_s, fInt_i, fInt_b, fTup_l, fTup_t, fList_l, fList_t, fMax2_i, fMin2_i, fAbs_i, isi_int_int, isi_int_bool, isi_int_str, isi_int_tup, isi_int_lst, isi_bl_int, isi_bl_bool, isi_bl_str, isi_bl_tup, isi_str_int, isi_str_bool, isi_str_str, isi_str_tup, isi_tup_int, isi_tup_bool, isi_tup_str, isi_tup_tup, isi_lst_int, isi_lst_bool, isi_lst_str, isi_lst_tup, isi_lst_lst, isi_non_int, isi_non_bool, isi_non_str, isi_non_tup, items_t, items_l,
  List.getElem?_cons_zero, List.getElem?_cons_succ, List.set_cons_zero, List.set_cons_succ, List.map_cons, List.map_nil, List.length_cons, List.length_nil, List.cons_append, List.nil_append, List.append_nil, List.replicate_succ, List.replicate_zero, Nat.reduceAdd, Nat.reduceSub, List.head?_cons, List.tail_cons, List.take_succ_cons, List.take_zero, List.take_nil,
  Option.some.injEq, Option.map_some, Option.map_none, exists_eq_left', exists_eq_left, Rv.d.injEq, Rv.o.injEq, D.int.injEq, D.bl.injEq, D.str.injEq, D.tup.injEq, D.lst.injEq, MO.lst.injEq, List.cons.injEq, and_true, true_and, and_assoc, exists_and_left, decide_eq_true_eq, if_true, Bool.true_eq_false, Bool.false_eq_true, if_false, reduceIte, Bool.not_true, Bool.not_false, eq_self, exists_const, List.filterMap_cons_some, List.filterMap_nil, List.filterMap_cons, and_self, CMul_iff, or_true, true_or, Int.reduceLT, Int.reduceLE, Int.reduceToNat, Int.reduceNeg, Int.reduceSub, Int.reduceAdd, Int.reducePow, Nat.reducePow, Int.reduceMul, ixN_def, Int.cast_ofNat_Int, Int.reduceEq, decide_true, decide_false, dMul_i, dPow_i, strD, reduceCtorEq, ite_true, ite_false, Nat.reduceLT, Nat.reduceLeDiff, Int.reduceAbs, false_and, and_false, or_false, false_or, exists_false, hu]
    refine ⟨n + 93, t1, 18, rfl, rfl, ht1, by omega, by omega, fun p t2 p0 p1 ht2 => ?_⟩
    obtain ⟨v, hv⟩ := atI_in (xs := oddW) p0 p1
    obtain ⟨kv, sv, bv, nv⟩ := oddW_ok v (atI_mem hv)
    simp only [sSeq, sNil, sIf, sSet, sAsg, sPar, sPar3, sRet, sRetN, sExpr, sBreak, sCont, sSetIx, wVar, wC, wOp, wChain, wTb, wAnd, wOr, wNotT, wAndV, wOrV, wNotV, wIf, wNil, wCons, wTup, wLst, wLstO, wSl, wNoPart, wPart, wCB, wNeg, wOrT, wTruth, wJoin, wLc, sFor, wipeE, wKw, wYes, wCall, wCallO, wApp, iL, iT, iR1, iR2, iZ, iS, gN, gsNil, gsCons, gTn, endsOf, retR_d, retR_o, sFrz, frz_d, frz_o0, frz_o1, frz_o10, tru_l, tru_t, tru_b, tru_i, tru_n, List.eraseIdx_cons_zero, List.eraseIdx_cons_succ, exists_eq', exists_eq, shf_d, bck_d, toC_nil, toC_d, toC_o, ds_nil, ds_cons, dats_nil, dats_d, dat_d, dat_o0, dat_o1, dat_o2, startE, kg, cutE, cut1_d, cut1_n, cut1_o0, cut1_o1, zipA,
  dAdd_i, dI0_i, dMod_i, dFdiv_i, dPow_i, dLt_i, dLe_i, dGt_i, dGe_i, dLt_s, dLe_s, dGt_s, dGe_s, dEq_i, dEq_s, dEq_b, dEq_is, dEq_si, dEq_ni, dEq_in, dEq_sn, dEq_ns, dNe_i, dNe_s, dNe_b, dNe_is, dNe_si, dNe_ni, dNe_in, dIs_b, dIs_n, dIsNot_b, dIsNot_n, dIx_l, dIx_t, dSl_l, dSl_t, dEq_ti, dEq_li, D.isN, atI_0, atI_1, atI_2, atI_3, atI_4, atI_5, atI_map, map_int_inj, map_str_inj,
  fLen_t, fLen_l, fLen_s, fInt_i, fInt_b, fTup_l, fTup_t, fList_l, fList_t, fMax2_i, fMin2_i, fAbs_i, isi_int_int, isi_int_bool, isi_int_str, isi_int_tup, isi_int_lst, isi_bl_int, isi_bl_bool, isi_bl_str, isi_bl_tup, isi_str_int, isi_str_bool, isi_str_str, isi_str_tup, isi_tup_int, isi_tup_bool, isi_tup_str, isi_tup_tup, isi_lst_int, isi_lst_bool, isi_lst_str, isi_lst_tup, isi_lst_lst, isi_non_int, isi_non_bool, isi_non_str, isi_non_tup, items_t, items_l,
  List.getElem?_cons_zero, List.getElem?_cons_succ, List.set_cons_zero, List.set_cons_succ, List.map_cons, List.map_nil, List.length_cons, List.length_nil, List.cons_append, List.nil_append, List.append_nil, List.replicate_succ, List.replicate_zero, Nat.reduceAdd, Nat.reduceSub, List.head?_cons, List.tail_cons, List.take_succ_cons, List.take_zero, List.take_nil,
  Option.some.injEq, Option.map_some, Option.map_none, exists_eq_left', exists_eq_left, Rv.d.injEq, Rv.o.injEq, D.int.injEq, D.bl.injEq, D.str.injEq, D.tup.injEq, D.lst.injEq, MO.lst.injEq, List.cons.injEq, and_true, true_and, and_assoc, exists_and_left, decide_eq_true_eq, if_true, Bool.true_eq_false, Bool.false_eq_true, if_false, reduceIte, Bool.not_true, Bool.not_false, eq_self, exists_const, List.filterMap_cons_some, List.filterMap_nil, List.filterMap_cons, and_self, CMul_iff, or_true, true_or, Int.reduceLT, Int.reduceLE, Int.reduceToNat, Int.reduceNeg, Int.reduceSub, Int.reduceAdd, Int.reducePow, Nat.reducePow, Int.reduceMul, ixN_def, Int.cast_ofNat_Int, Int.reduceEq, decide_true, decide_false, dMul_i, dPow_i, strD, reduceCtorEq, ite_true, ite_false, Nat.reduceLT, Nat.reduceLeDiff, Int.reduceAbs, false_and, and_false, or_false, false_or, exists_false, hv]
    refine ⟨n + 94, t2, 40, rfl, rfl, ht2, by omega, by omega, fun r t3 r0 r1 ht3 => ?_⟩
    have eM : dMul (.str (Str.ofString "z")) (.int (9 + r)) = some (.str (strRep (Str.ofString "z") (9 + r))) := by rw [dMul_s, if_pos ⟨by decide, by omega, by omega⟩]
    have lz : (strRep (Str.ofString "z") (9 + r)).length = (9 + r).toNat := by rw [strRep_len, show (Str.ofString "z").length = 1 from by decide, Nat.mul_one]
    have bz : ∀ lo hi, isWord lo hi (.str (strRep (Str.ofString "z") (9 + r))) = false := fun lo hi => by
      have e : decide (1 ≤ (strRep (Str.ofString "z") (9 + r)).length ∧ (strRep (Str.ofString "z") (9 + r)).length ≤ 8) = false := decide_eq_false (by rw [lz]; omega)
      simp only [isWord, e, Bool.false_and]
    have sz3 : ∀ s, D.str (strRep (Str.ofString "z") (9 + r)) = .str s → s.length ≤ 1000 := fun s e => by cases e; rw [lz]; omega
    simp only [sSeq, sNil, sIf, sSet, sAsg, sPar, sPar3, sRet, sRetN, sExpr, sBreak, sCont, sSetIx, wVar, wC, wOp, wChain, wTb, wAnd, wOr, wNotT, wAndV, wOrV, wNotV, wIf, wNil, wCons, wTup, wLst, wLstO, wSl, wNoPart, wPart, wCB, wNeg, wOrT, wTruth, wJoin, wLc, sFor, wipeE, wKw, wYes, wCall, wCallO, wApp, iL, iT, iR1, iR2, iZ, iS, gN, gsNil, gsCons, gTn, endsOf, retR_d, retR_o, sFrz, frz_d, frz_o0, frz_o1, frz_o10, tru_l, tru_t, tru_b, tru_i, tru_n, List.eraseIdx_cons_zero, List.eraseIdx_cons_succ, exists_eq', exists_eq, shf_d, bck_d, toC_nil, toC_d, toC_o, ds_nil, ds_cons, dats_nil, dats_d, dat_d, dat_o0, dat_o1, dat_o2, startE, kg, cutE, cut1_d, cut1_n, cut1_o0, cut1_o1, zipA,
  dAdd_i, dI0_i, dMod_i, dFdiv_i, dPow_i, dLt_i, dLe_i, dGt_i, dGe_i, dLt_s, dLe_s, dGt_s, dGe_s, dEq_i, dEq_s, dEq_b, dEq_is, dEq_si, dEq_ni, dEq_in, dEq_sn, dEq_ns, dNe_i, dNe_s, dNe_b, dNe_is, dNe_si, dNe_ni, dNe_in, dIs_b, dIs_n, dIsNot_b, dIsNot_n, dIx_l, dIx_t, dSl_l, dSl_t, dEq_ti, dEq_li, D.isN, atI_0, atI_1, atI_2, atI_3, atI_4, atI_5, atI_map, map_int_inj, map_str_inj,
  fLen_t, fLen_l, fLen_s, fInt_i, fInt_b, fTup_l, fTup_t, fList_l, fList_t, fMax2_i, fMin2_i, fAbs_i, isi_int_int, isi_int_bool, isi_int_str, isi_int_tup, isi_int_lst, isi_bl_int, isi_bl_bool, isi_bl_str, isi_bl_tup, isi_str_int, isi_str_bool, isi_str_str, isi_str_tup, isi_tup_int, isi_tup_bool, isi_tup_str, isi_tup_tup, isi_lst_int, isi_lst_bool, isi_lst_str, isi_lst_tup, isi_lst_lst, isi_non_int, isi_non_bool, isi_non_str, isi_non_tup, items_t, items_l,
  List.getElem?_cons_zero, List.getElem?_cons_succ, List.set_cons_zero, List.set_cons_succ, List.map_cons, List.map_nil, List.length_cons, List.length_nil, List.cons_append, List.nil_append, List.append_nil, List.replicate_succ, List.replicate_zero, Nat.reduceAdd, Nat.reduceSub, List.head?_cons, List.tail_cons, List.take_succ_cons, List.take_zero, List.take_nil,
  Option.some.injEq, Option.map_some, Option.map_none, exists_eq_left', exists_eq_left, Rv.d.injEq, Rv.o.injEq, D.int.injEq, D.bl.injEq, D.str.injEq, D.tup.injEq, D.lst.injEq, MO.lst.injEq, List.cons.injEq, and_true, true_and, and_assoc, exists_and_left, decide_eq_true_eq, if_true, Bool.true_eq_false, Bool.false_eq_true, if_false, reduceIte, Bool.not_true, Bool.not_false, eq_self, exists_const, List.filterMap_cons_some, List.filterMap_nil, List.filterMap_cons, and_self, CMul_iff, or_true, true_or, Int.reduceLT, Int.reduceLE, Int.reduceToNat, Int.reduceNeg, Int.reduceSub, Int.reduceAdd, Int.reducePow, Nat.reducePow, Int.reduceMul, ixN_def, Int.cast_ofNat_Int, Int.reduceEq, decide_true, decide_false, dMul_i, dPow_i, strD, reduceCtorEq, ite_true, ite_false, Nat.reduceLT, Nat.reduceLeDiff, Int.reduceAbs, false_and, and_false, or_false, false_or, exists_false, eM]
    refine ⟨sz (by decide), for_cons ?_⟩
    simp only [sSeq, sNil, sIf, sSet, sAsg, sPar, sPar3, sRet, sRetN, sExpr, sBreak, sCont, sSetIx, wVar, wC, wOp, wChain, wTb, wAnd, wOr, wNotT, wAndV, wOrV, wNotV, wIf, wNil, wCons, wTup, wLst, wLstO, wSl, wNoPart, wPart, wCB, wNeg, wOrT, wTruth, wJoin, wLc, sFor, wipeE, wKw, wYes, wCall, wCallO, wApp, iL, iT, iR1, iR2, iZ, iS, gN, gsNil, gsCons, gTn, endsOf, retR_d, retR_o, sFrz, frz_d, frz_o0, frz_o1, frz_o10, tru_l, tru_t, tru_b, tru_i, tru_n, List.eraseIdx_cons_zero, List.eraseIdx_cons_succ, exists_eq', exists_eq, shf_d, bck_d, toC_nil, toC_d, toC_o, ds_nil, ds_cons, dats_nil, dats_d, dat_d, dat_o0, dat_o1, dat_o2, startE, kg, cutE, cut1_d, cut1_n, cut1_o0, cut1_o1, zipA,
  dAdd_i, dI0_i, dMod_i, dFdiv_i, dPow_i, dLt_i, dLe_i, dGt_i, dGe_i, dLt_s, dLe_s, dGt_s, dGe_s, dEq_i, dEq_s, dEq_b, dEq_is, dEq_si, dEq_ni, dEq_in, dEq_sn, dEq_ns, dNe_i, dNe_s, dNe_b, dNe_is, dNe_si, dNe_ni, dNe_in, dIs_b, dIs_n, dIsNot_b, dIsNot_n, dIx_l, dIx_t, dSl_l, dSl_t, dEq_ti, dEq_li, D.isN, atI_0, atI_1, atI_2, atI_3, atI_4, atI_5, atI_map, map_int_inj, map_str_inj,
  fLen_t, fLen_l, fLen_s, fInt_i, fInt_b, fTup_l, fTup_t, fList_l, fList_t, fMax2_i, fMin2_i, fAbs_i, isi_int_int, isi_int_bool, isi_int_str, isi_int_tup, isi_int_lst, isi_bl_int, isi_bl_bool, isi_bl_str, isi_bl_tup, isi_str_int, isi_str_bool, isi_str_str, isi_str_tup, isi_tup_int, isi_tup_bool, isi_tup_str, isi_tup_tup, isi_lst_int, isi_lst_bool, isi_lst_str, isi_lst_tup, isi_lst_lst, isi_non_int, isi_non_bool, isi_non_str, isi_non_tup, items_t, items_l,
  List.getElem?_cons_zero, List.getElem?_cons_succ, List.set_cons_zero, List.set_cons_succ, List.map_cons, List.map_nil, List.length_cons, List.length_nil, List.cons_append, List.nil_append, List.append_nil, List.replicate_succ, List.replicate_zero, Nat.reduceAdd, Nat.reduceSub, List.head?_cons, List.tail_cons, List.take_succ_cons, List.take_zero, List.take_nil,
  Option.some.injEq, Option.map_some, Option.map_none, exists_eq_left', exists_eq_left, Rv.d.injEq, Rv.o.injEq, D.int.injEq, D.bl.injEq, D.str.injEq, D.tup.injEq, D.lst.injEq, MO.lst.injEq, List.cons.injEq, and_true, true_and, and_assoc, exists_and_left, decide_eq_true_eq, if_true, Bool.true_eq_false, Bool.false_eq_true, if_false, reduceIte, Bool.not_true, Bool.not_false, eq_self, exists_const, List.filterMap_cons_some, List.filterMap_nil, List.filterMap_cons, and_self, CMul_iff, or_true, true_or, Int.reduceLT, Int.reduceLE, Int.reduceToNat, Int.reduceNeg, Int.reduceSub, Int.reduceAdd, Int.reducePow, Nat.reducePow, Int.reduceMul, ixN_def, Int.cast_ofNat_Int, Int.reduceEq, decide_true, decide_false, dMul_i, dPow_i, strD, reduceCtorEq, ite_true, ite_false, Nat.reduceLT, Nat.reduceLeDiff, Int.reduceAbs, false_and, and_false, or_false, false_or, exists_false, c_is_bin, c_is_open_name, bu, nu, c__law_same]
    refine ⟨ku, su, same_b _, ku, su, same_b _, for_cons ?_⟩
    simp only [sSeq, sNil, sIf, sSet, sAsg, sPar, sPar3, sRet, sRetN, sExpr, sBreak, sCont, sSetIx, wVar, wC, wOp, wChain, wTb, wAnd, wOr, wNotT, wAndV, wOrV, wNotV, wIf, wNil, wCons, wTup, wLst, wLstO, wSl, wNoPart, wPart, wCB, wNeg, wOrT, wTruth, wJoin, wLc, sFor, wipeE, wKw, wYes, wCall, wCallO, wApp, iL, iT, iR1, iR2, iZ, iS, gN, gsNil, gsCons, gTn, endsOf, retR_d, retR_o, sFrz, frz_d, frz_o0, frz_o1, frz_o10, tru_l, tru_t, tru_b, tru_i, tru_n, List.eraseIdx_cons_zero, List.eraseIdx_cons_succ, exists_eq', exists_eq, shf_d, bck_d, toC_nil, toC_d, toC_o, ds_nil, ds_cons, dats_nil, dats_d, dat_d, dat_o0, dat_o1, dat_o2, startE, kg, cutE, cut1_d, cut1_n, cut1_o0, cut1_o1, zipA,
  dAdd_i, dI0_i, dMod_i, dFdiv_i, dPow_i, dLt_i, dLe_i, dGt_i, dGe_i, dLt_s, dLe_s, dGt_s, dGe_s, dEq_i, dEq_s, dEq_b, dEq_is, dEq_si, dEq_ni, dEq_in, dEq_sn, dEq_ns, dNe_i, dNe_s, dNe_b, dNe_is, dNe_si, dNe_ni, dNe_in, dIs_b, dIs_n, dIsNot_b, dIsNot_n, dIx_l, dIx_t, dSl_l, dSl_t, dEq_ti, dEq_li, D.isN, atI_0, atI_1, atI_2, atI_3, atI_4, atI_5, atI_map, map_int_inj, map_str_inj,
  fLen_t, fLen_l, fLen_s, fInt_i, fInt_b, fTup_l, fTup_t, fList_l, fList_t, fMax2_i, fMin2_i, fAbs_i, isi_int_int, isi_int_bool, isi_int_str, isi_int_tup, isi_int_lst, isi_bl_int, isi_bl_bool, isi_bl_str, isi_bl_tup, isi_str_int, isi_str_bool, isi_str_str, isi_str_tup, isi_tup_int, isi_tup_bool, isi_tup_str, isi_tup_tup, isi_lst_int, isi_lst_bool, isi_lst_str, isi_lst_tup, isi_lst_lst, isi_non_int, isi_non_bool, isi_non_str, isi_non_tup, items_t, items_l,
  List.getElem?_cons_zero, List.getElem?_cons_succ, List.set_cons_zero, List.set_cons_succ, List.map_cons, List.map_nil, List.length_cons, List.length_nil, List.cons_append, List.nil_append, List.append_nil, List.replicate_succ, List.replicate_zero, Nat.reduceAdd, Nat.reduceSub, List.head?_cons, List.tail_cons, List.take_succ_cons, List.take_zero, List.take_nil,
  Option.some.injEq, Option.map_some, Option.map_none, exists_eq_left', exists_eq_left, Rv.d.injEq, Rv.o.injEq, D.int.injEq, D.bl.injEq, D.str.injEq, D.tup.injEq, D.lst.injEq, MO.lst.injEq, List.cons.injEq, and_true, true_and, and_assoc, exists_and_left, decide_eq_true_eq, if_true, Bool.true_eq_false, Bool.false_eq_true, if_false, reduceIte, Bool.not_true, Bool.not_false, eq_self, exists_const, List.filterMap_cons_some, List.filterMap_nil, List.filterMap_cons, and_self, CMul_iff, or_true, true_or, Int.reduceLT, Int.reduceLE, Int.reduceToNat, Int.reduceNeg, Int.reduceSub, Int.reduceAdd, Int.reducePow, Nat.reducePow, Int.reduceMul, ixN_def, Int.cast_ofNat_Int, Int.reduceEq, decide_true, decide_false, dMul_i, dPow_i, strD, reduceCtorEq, ite_true, ite_false, Nat.reduceLT, Nat.reduceLeDiff, Int.reduceAbs, false_and, and_false, or_false, false_or, exists_false, c_is_bin, c_is_open_name, bv, nv, c__law_same]
    refine ⟨kv, sv, same_b _, kv, sv, same_b _, for_cons ?_⟩
    simp only [sSeq, sNil, sIf, sSet, sAsg, sPar, sPar3, sRet, sRetN, sExpr, sBreak, sCont, sSetIx, wVar, wC, wOp, wChain, wTb, wAnd, wOr, wNotT, wAndV, wOrV, wNotV, wIf, wNil, wCons, wTup, wLst, wLstO, wSl, wNoPart, wPart, wCB, wNeg, wOrT, wTruth, wJoin, wLc, sFor, wipeE, wKw, wYes, wCall, wCallO, wApp, iL, iT, iR1, iR2, iZ, iS, gN, gsNil, gsCons, gTn, endsOf, retR_d, retR_o, sFrz, frz_d, frz_o0, frz_o1, frz_o10, tru_l, tru_t, tru_b, tru_i, tru_n, List.eraseIdx_cons_zero, List.eraseIdx_cons_succ, exists_eq', exists_eq, shf_d, bck_d, toC_nil, toC_d, toC_o, ds_nil, ds_cons, dats_nil, dats_d, dat_d, dat_o0, dat_o1, dat_o2, startE, kg, cutE, cut1_d, cut1_n, cut1_o0, cut1_o1, zipA,
  dAdd_i, dI0_i, dMod_i, dFdiv_i, dPow_i, dLt_i, dLe_i, dGt_i, dGe_i, dLt_s, dLe_s, dGt_s, dGe_s, dEq_i, dEq_s, dEq_b, dEq_is, dEq_si, dEq_ni, dEq_in, dEq_sn, dEq_ns, dNe_i, dNe_s, dNe_b, dNe_is, dNe_si, dNe_ni, dNe_in, dIs_b, dIs_n, dIsNot_b, dIsNot_n, dIx_l, dIx_t, dSl_l, dSl_t, dEq_ti, dEq_li, D.isN, atI_0, atI_1, atI_2, atI_3, atI_4, atI_5, atI_map, map_int_inj, map_str_inj,
  fLen_t, fLen_l, fLen_s, fInt_i, fInt_b, fTup_l, fTup_t, fList_l, fList_t, fMax2_i, fMin2_i, fAbs_i, isi_int_int, isi_int_bool, isi_int_str, isi_int_tup, isi_int_lst, isi_bl_int, isi_bl_bool, isi_bl_str, isi_bl_tup, isi_str_int, isi_str_bool, isi_str_str, isi_str_tup, isi_tup_int, isi_tup_bool, isi_tup_str, isi_tup_tup, isi_lst_int, isi_lst_bool, isi_lst_str, isi_lst_tup, isi_lst_lst, isi_non_int, isi_non_bool, isi_non_str, isi_non_tup, items_t, items_l,
  List.getElem?_cons_zero, List.getElem?_cons_succ, List.set_cons_zero, List.set_cons_succ, List.map_cons, List.map_nil, List.length_cons, List.length_nil, List.cons_append, List.nil_append, List.append_nil, List.replicate_succ, List.replicate_zero, Nat.reduceAdd, Nat.reduceSub, List.head?_cons, List.tail_cons, List.take_succ_cons, List.take_zero, List.take_nil,
  Option.some.injEq, Option.map_some, Option.map_none, exists_eq_left', exists_eq_left, Rv.d.injEq, Rv.o.injEq, D.int.injEq, D.bl.injEq, D.str.injEq, D.tup.injEq, D.lst.injEq, MO.lst.injEq, List.cons.injEq, and_true, true_and, and_assoc, exists_and_left, decide_eq_true_eq, if_true, Bool.true_eq_false, Bool.false_eq_true, if_false, reduceIte, Bool.not_true, Bool.not_false, eq_self, exists_const, List.filterMap_cons_some, List.filterMap_nil, List.filterMap_cons, and_self, CMul_iff, or_true, true_or, Int.reduceLT, Int.reduceLE, Int.reduceToNat, Int.reduceNeg, Int.reduceSub, Int.reduceAdd, Int.reducePow, Nat.reducePow, Int.reduceMul, ixN_def, Int.cast_ofNat_Int, Int.reduceEq, decide_true, decide_false, dMul_i, dPow_i, strD, reduceCtorEq, ite_true, ite_false, Nat.reduceLT, Nat.reduceLeDiff, Int.reduceAbs, false_and, and_false, or_false, false_or, exists_false]
    refine ⟨_, rfl, rfl, known_s _, sz3, ?_⟩
    rw [bz]
    simp only [sSeq, sNil, sIf, sSet, sAsg, sPar, sPar3, sRet, sRetN, sExpr, sBreak, sCont, sSetIx, wVar, wC, wOp, wChain, wTb, wAnd, wOr, wNotT, wAndV, wOrV, wNotV, wIf, wNil, wCons, wTup, wLst, wLstO, wSl, wNoPart, wPart, wCB, wNeg, wOrT, wTruth, wJoin, wLc, sFor, wipeE, wKw, wYes, wCall, wCallO, wApp, iL, iT, iR1, iR2, iZ, iS, gN, gsNil, gsCons, gTn, endsOf, retR_d, retR_o, sFrz, frz_d, frz_o0, frz_o1, frz_o10, tru_l, tru_t, tru_b, tru_i, tru_n, List.eraseIdx_cons_zero, List.eraseIdx_cons_succ, exists_eq', exists_eq, shf_d, bck_d, toC_nil, toC_d, toC_o, ds_nil, ds_cons, dats_nil, dats_d, dat_d, dat_o0, dat_o1, dat_o2, startE, kg, cutE, cut1_d, cut1_n, cut1_o0, cut1_o1, zipA,
  dAdd_i, dI0_i, dMod_i, dFdiv_i, dPow_i, dLt_i, dLe_i, dGt_i, dGe_i, dLt_s, dLe_s, dGt_s, dGe_s, dEq_i, dEq_s, dEq_b, dEq_is, dEq_si, dEq_ni, dEq_in, dEq_sn, dEq_ns, dNe_i, dNe_s, dNe_b, dNe_is, dNe_si, dNe_ni, dNe_in, dIs_b, dIs_n, dIsNot_b, dIsNot_n, dIx_l, dIx_t, dSl_l, dSl_t, dEq_ti, dEq_li, D.isN, atI_0, atI_1, atI_2, atI_3, atI_4, atI_5, atI_map, map_int_inj, map_str_inj,
  fLen_t, fLen_l, fLen_s, fInt_i, fInt_b, fTup_l, fTup_t, fList_l, fList_t, fMax2_i, fMin2_i, fAbs_i, isi_int_int, isi_int_bool, isi_int_str, isi_int_tup, isi_int_lst, isi_bl_int, isi_bl_bool, isi_bl_str, isi_bl_tup, isi_str_int, isi_str_bool, isi_str_str, isi_str_tup, isi_tup_int, isi_tup_bool, isi_tup_str, isi_tup_tup, isi_lst_int, isi_lst_bool, isi_lst_str, isi_lst_tup, isi_lst_lst, isi_non_int, isi_non_bool, isi_non_str, isi_non_tup, items_t, items_l,
  List.getElem?_cons_zero, List.getElem?_cons_succ, List.set_cons_zero, List.set_cons_succ, List.map_cons, List.map_nil, List.length_cons, List.length_nil, List.cons_append, List.nil_append, List.append_nil, List.replicate_succ, List.replicate_zero, Nat.reduceAdd, Nat.reduceSub, List.head?_cons, List.tail_cons, List.take_succ_cons, List.take_zero, List.take_nil,
  Option.some.injEq, Option.map_some, Option.map_none, exists_eq_left', exists_eq_left, Rv.d.injEq, Rv.o.injEq, D.int.injEq, D.bl.injEq, D.str.injEq, D.tup.injEq, D.lst.injEq, MO.lst.injEq, List.cons.injEq, and_true, true_and, and_assoc, exists_and_left, decide_eq_true_eq, if_true, Bool.true_eq_false, Bool.false_eq_true, if_false, reduceIte, Bool.not_true, Bool.not_false, eq_self, exists_const, List.filterMap_cons_some, List.filterMap_nil, List.filterMap_cons, and_self, CMul_iff, or_true, true_or, Int.reduceLT, Int.reduceLE, Int.reduceToNat, Int.reduceNeg, Int.reduceSub, Int.reduceAdd, Int.reducePow, Nat.reducePow, Int.reduceMul, ixN_def, Int.cast_ofNat_Int, Int.reduceEq, decide_true, decide_false, dMul_i, dPow_i, strD, reduceCtorEq, ite_true, ite_false, Nat.reduceLT, Nat.reduceLeDiff, Int.reduceAbs, false_and, and_false, or_false, false_or, exists_false, c__law_same]
    refine ⟨same_b _, _, rfl, rfl, known_s _, sz3, ?_⟩
    rw [bz]
    simp only [sSeq, sNil, sIf, sSet, sAsg, sPar, sPar3, sRet, sRetN, sExpr, sBreak, sCont, sSetIx, wVar, wC, wOp, wChain, wTb, wAnd, wOr, wNotT, wAndV, wOrV, wNotV, wIf, wNil, wCons, wTup, wLst, wLstO, wSl, wNoPart, wPart, wCB, wNeg, wOrT, wTruth, wJoin, wLc, sFor, wipeE, wKw, wYes, wCall, wCallO, wApp, iL, iT, iR1, iR2, iZ, iS, gN, gsNil, gsCons, gTn, endsOf, retR_d, retR_o, sFrz, frz_d, frz_o0, frz_o1, frz_o10, tru_l, tru_t, tru_b, tru_i, tru_n, List.eraseIdx_cons_zero, List.eraseIdx_cons_succ, exists_eq', exists_eq, shf_d, bck_d, toC_nil, toC_d, toC_o, ds_nil, ds_cons, dats_nil, dats_d, dat_d, dat_o0, dat_o1, dat_o2, startE, kg, cutE, cut1_d, cut1_n, cut1_o0, cut1_o1, zipA,
  dAdd_i, dI0_i, dMod_i, dFdiv_i, dPow_i, dLt_i, dLe_i, dGt_i, dGe_i, dLt_s, dLe_s, dGt_s, dGe_s, dEq_i, dEq_s, dEq_b, dEq_is, dEq_si, dEq_ni, dEq_in, dEq_sn, dEq_ns, dNe_i, dNe_s, dNe_b, dNe_is, dNe_si, dNe_ni, dNe_in, dIs_b, dIs_n, dIsNot_b, dIsNot_n, dIx_l, dIx_t, dSl_l, dSl_t, dEq_ti, dEq_li, D.isN, atI_0, atI_1, atI_2, atI_3, atI_4, atI_5, atI_map, map_int_inj, map_str_inj,
  fLen_t, fLen_l, fLen_s, fInt_i, fInt_b, fTup_l, fTup_t, fList_l, fList_t, fMax2_i, fMin2_i, fAbs_i, isi_int_int, isi_int_bool, isi_int_str, isi_int_tup, isi_int_lst, isi_bl_int, isi_bl_bool, isi_bl_str, isi_bl_tup, isi_str_int, isi_str_bool, isi_str_str, isi_str_tup, isi_tup_int, isi_tup_bool, isi_tup_str, isi_tup_tup, isi_lst_int, isi_lst_bool, isi_lst_str, isi_lst_tup, isi_lst_lst, isi_non_int, isi_non_bool, isi_non_str, isi_non_tup, items_t, items_l,
  List.getElem?_cons_zero, List.getElem?_cons_succ, List.set_cons_zero, List.set_cons_succ, List.map_cons, List.map_nil, List.length_cons, List.length_nil, List.cons_append, List.nil_append, List.append_nil, List.replicate_succ, List.replicate_zero, Nat.reduceAdd, Nat.reduceSub, List.head?_cons, List.tail_cons, List.take_succ_cons, List.take_zero, List.take_nil,
  Option.some.injEq, Option.map_some, Option.map_none, exists_eq_left', exists_eq_left, Rv.d.injEq, Rv.o.injEq, D.int.injEq, D.bl.injEq, D.str.injEq, D.tup.injEq, D.lst.injEq, MO.lst.injEq, List.cons.injEq, and_true, true_and, and_assoc, exists_and_left, decide_eq_true_eq, if_true, Bool.true_eq_false, Bool.false_eq_true, if_false, reduceIte, Bool.not_true, Bool.not_false, eq_self, exists_const, List.filterMap_cons_some, List.filterMap_nil, List.filterMap_cons, and_self, CMul_iff, or_true, true_or, Int.reduceLT, Int.reduceLE, Int.reduceToNat, Int.reduceNeg, Int.reduceSub, Int.reduceAdd, Int.reducePow, Nat.reducePow, Int.reduceMul, ixN_def, Int.cast_ofNat_Int, Int.reduceEq, decide_true, decide_false, dMul_i, dPow_i, strD, reduceCtorEq, ite_true, ite_false, Nat.reduceLT, Nat.reduceLeDiff, Int.reduceAbs, false_and, and_false, or_false, false_or, exists_false, c__law_same]
    refine ⟨same_b _, for_nil ?_⟩
    have z9 : dMul (.str (Str.ofString "Z")) (.int 9) = some (.str (Str.ofString "ZZZZZZZZZ")) := by rw [dMul_s, if_pos ⟨by decide, by omega, by omega⟩]; rfl
    have z8 : dMul (.str (Str.ofString "Z")) (.int 8) = some (.str (Str.ofString "ZZZZZZZZ")) := by rw [dMul_s, if_pos ⟨by decide, by omega, by omega⟩]; rfl
    have y8 : dMul (.str (Str.ofString "z")) (.int 8) = some (.str (Str.ofString "zzzzzzzz")) := by rw [dMul_s, if_pos ⟨by decide, by omega, by omega⟩]; rfl
    simp only [sSeq, sNil, sIf, sSet, sAsg, sPar, sPar3, sRet, sRetN, sExpr, sBreak, sCont, sSetIx, wVar, wC, wOp, wChain, wTb, wAnd, wOr, wNotT, wAndV, wOrV, wNotV, wIf, wNil, wCons, wTup, wLst, wLstO, wSl, wNoPart, wPart, wCB, wNeg, wOrT, wTruth, wJoin, wLc, sFor, wipeE, wKw, wYes, wCall, wCallO, wApp, iL, iT, iR1, iR2, iZ, iS, gN, gsNil, gsCons, gTn, endsOf, retR_d, retR_o, sFrz, frz_d, frz_o0, frz_o1, frz_o10, tru_l, tru_t, tru_b, tru_i, tru_n, List.eraseIdx_cons_zero, List.eraseIdx_cons_succ, exists_eq', exists_eq, shf_d, bck_d, toC_nil, toC_d, toC_o, ds_nil, ds_cons, dats_nil, dats_d, dat_d, dat_o0, dat_o1, dat_o2, startE, kg, cutE, cut1_d, cut1_n, cut1_o0, cut1_o1, zipA,
  dAdd_i, dI0_i, dMod_i, dFdiv_i, dPow_i, dLt_i, dLe_i, dGt_i, dGe_i, dLt_s, dLe_s, dGt_s, dGe_s, dEq_i, dEq_s, dEq_b, dEq_is, dEq_si, dEq_ni, dEq_in, dEq_sn, dEq_ns, dNe_i, dNe_s, dNe_b, dNe_is, dNe_si, dNe_ni, dNe_in, dIs_b, dIs_n, dIsNot_b, dIsNot_n, dIx_l, dIx_t, dSl_l, dSl_t, dEq_ti, dEq_li, D.isN, atI_0, atI_1, atI_2, atI_3, atI_4, atI_5, atI_map, map_int_inj, map_str_inj,
  fLen_t, fLen_l, fLen_s, fInt_i, fInt_b, fTup_l, fTup_t, fList_l, fList_t, fMax2_i, fMin2_i, fAbs_i, isi_int_int, isi_int_bool, isi_int_str, isi_int_tup, isi_int_lst, isi_bl_int, isi_bl_bool, isi_bl_str, isi_bl_tup, isi_str_int, isi_str_bool, isi_str_str, isi_str_tup, isi_tup_int, isi_tup_bool, isi_tup_str, isi_tup_tup, isi_lst_int, isi_lst_bool, isi_lst_str, isi_lst_tup, isi_lst_lst, isi_non_int, isi_non_bool, isi_non_str, isi_non_tup, items_t, items_l,
  List.getElem?_cons_zero, List.getElem?_cons_succ, List.set_cons_zero, List.set_cons_succ, List.map_cons, List.map_nil, List.length_cons, List.length_nil, List.cons_append, List.nil_append, List.append_nil, List.replicate_succ, List.replicate_zero, Nat.reduceAdd, Nat.reduceSub, List.head?_cons, List.tail_cons, List.take_succ_cons, List.take_zero, List.take_nil,
  Option.some.injEq, Option.map_some, Option.map_none, exists_eq_left', exists_eq_left, Rv.d.injEq, Rv.o.injEq, D.int.injEq, D.bl.injEq, D.str.injEq, D.tup.injEq, D.lst.injEq, MO.lst.injEq, List.cons.injEq, and_true, true_and, and_assoc, exists_and_left, decide_eq_true_eq, if_true, Bool.true_eq_false, Bool.false_eq_true, if_false, reduceIte, Bool.not_true, Bool.not_false, eq_self, exists_const, List.filterMap_cons_some, List.filterMap_nil, List.filterMap_cons, and_self, CMul_iff, or_true, true_or, Int.reduceLT, Int.reduceLE, Int.reduceToNat, Int.reduceNeg, Int.reduceSub, Int.reduceAdd, Int.reducePow, Nat.reducePow, Int.reduceMul, ixN_def, Int.cast_ofNat_Int, Int.reduceEq, decide_true, decide_false, dMul_i, dPow_i, strD, reduceCtorEq, ite_true, ite_false, Nat.reduceLT, Nat.reduceLeDiff, Int.reduceAbs, false_and, and_false, or_false, false_or, exists_false, z9, z8, y8]
    refine ⟨_, rfl, rfl, known_s _, fun s e => by cases e; decide, ?_⟩
    rw [show isWord 65 90 (.str (Str.ofString "ZZZZZZZZZ")) = false by decide]
    simp only [sSeq, sNil, sIf, sSet, sAsg, sPar, sPar3, sRet, sRetN, sExpr, sBreak, sCont, sSetIx, wVar, wC, wOp, wChain, wTb, wAnd, wOr, wNotT, wAndV, wOrV, wNotV, wIf, wNil, wCons, wTup, wLst, wLstO, wSl, wNoPart, wPart, wCB, wNeg, wOrT, wTruth, wJoin, wLc, sFor, wipeE, wKw, wYes, wCall, wCallO, wApp, iL, iT, iR1, iR2, iZ, iS, gN, gsNil, gsCons, gTn, endsOf, retR_d, retR_o, sFrz, frz_d, frz_o0, frz_o1, frz_o10, tru_l, tru_t, tru_b, tru_i, tru_n, List.eraseIdx_cons_zero, List.eraseIdx_cons_succ, exists_eq', exists_eq, shf_d, bck_d, toC_nil, toC_d, toC_o, ds_nil, ds_cons, dats_nil, dats_d, dat_d, dat_o0, dat_o1, dat_o2, startE, kg, cutE, cut1_d, cut1_n, cut1_o0, cut1_o1, zipA,
  dAdd_i, dI0_i, dMod_i, dFdiv_i, dPow_i, dLt_i, dLe_i, dGt_i, dGe_i, dLt_s, dLe_s, dGt_s, dGe_s, dEq_i, dEq_s, dEq_b, dEq_is, dEq_si, dEq_ni, dEq_in, dEq_sn, dEq_ns, dNe_i, dNe_s, dNe_b, dNe_is, dNe_si, dNe_ni, dNe_in, dIs_b, dIs_n, dIsNot_b, dIsNot_n, dIx_l, dIx_t, dSl_l, dSl_t, dEq_ti, dEq_li, D.isN, atI_0, atI_1, atI_2, atI_3, atI_4, atI_5, atI_map, map_int_inj, map_str_inj,
  fLen_t, fLen_l, fLen_s, fInt_i, fInt_b, fTup_l, fTup_t, fList_l, fList_t, fMax2_i, fMin2_i, fAbs_i, isi_int_int, isi_int_bool, isi_int_str, isi_int_tup, isi_int_lst, isi_bl_int, isi_bl_bool, isi_bl_str, isi_bl_tup, isi_str_int, isi_str_bool, isi_str_str, isi_str_tup, isi_tup_int, isi_tup_bool, isi_tup_str, isi_tup_tup, isi_lst_int, isi_lst_bool, isi_lst_str, isi_lst_tup, isi_lst_lst, isi_non_int, isi_non_bool, isi_non_str, isi_non_tup, items_t, items_l,
  List.getElem?_cons_zero, List.getElem?_cons_succ, List.set_cons_zero, List.set_cons_succ, List.map_cons, List.map_nil, List.length_cons, List.length_nil, List.cons_append, List.nil_append, List.append_nil, List.replicate_succ, List.replicate_zero, Nat.reduceAdd, Nat.reduceSub, List.head?_cons, List.tail_cons, List.take_succ_cons, List.take_zero, List.take_nil,
  Option.some.injEq, Option.map_some, Option.map_none, exists_eq_left', exists_eq_left, Rv.d.injEq, Rv.o.injEq, D.int.injEq, D.bl.injEq, D.str.injEq, D.tup.injEq, D.lst.injEq, MO.lst.injEq, List.cons.injEq, and_true, true_and, and_assoc, exists_and_left, decide_eq_true_eq, if_true, Bool.true_eq_false, Bool.false_eq_true, if_false, reduceIte, Bool.not_true, Bool.not_false, eq_self, exists_const, List.filterMap_cons_some, List.filterMap_nil, List.filterMap_cons, and_self, CMul_iff, or_true, true_or, Int.reduceLT, Int.reduceLE, Int.reduceToNat, Int.reduceNeg, Int.reduceSub, Int.reduceAdd, Int.reducePow, Nat.reducePow, Int.reduceMul, ixN_def, Int.cast_ofNat_Int, Int.reduceEq, decide_true, decide_false, dMul_i, dPow_i, strD, reduceCtorEq, ite_true, ite_false, Nat.reduceLT, Nat.reduceLeDiff, Int.reduceAbs, false_and, and_false, or_false, false_or, exists_false]
    refine ⟨_, rfl, rfl, known_s _, fun s e => by cases e; decide, ?_⟩
    rw [show isWord 97 122 (.str (Str.ofString "zzzzzzzz")) = true by decide]
    simp only [sSeq, sNil, sIf, sSet, sAsg, sPar, sPar3, sRet, sRetN, sExpr, sBreak, sCont, sSetIx, wVar, wC, wOp, wChain, wTb, wAnd, wOr, wNotT, wAndV, wOrV, wNotV, wIf, wNil, wCons, wTup, wLst, wLstO, wSl, wNoPart, wPart, wCB, wNeg, wOrT, wTruth, wJoin, wLc, sFor, wipeE, wKw, wYes, wCall, wCallO, wApp, iL, iT, iR1, iR2, iZ, iS, gN, gsNil, gsCons, gTn, endsOf, retR_d, retR_o, sFrz, frz_d, frz_o0, frz_o1, frz_o10, tru_l, tru_t, tru_b, tru_i, tru_n, List.eraseIdx_cons_zero, List.eraseIdx_cons_succ, exists_eq', exists_eq, shf_d, bck_d, toC_nil, toC_d, toC_o, ds_nil, ds_cons, dats_nil, dats_d, dat_d, dat_o0, dat_o1, dat_o2, startE, kg, cutE, cut1_d, cut1_n, cut1_o0, cut1_o1, zipA,
  dAdd_i, dI0_i, dMod_i, dFdiv_i, dPow_i, dLt_i, dLe_i, dGt_i, dGe_i, dLt_s, dLe_s, dGt_s, dGe_s, dEq_i, dEq_s, dEq_b, dEq_is, dEq_si, dEq_ni, dEq_in, dEq_sn, dEq_ns, dNe_i, dNe_s, dNe_b, dNe_is, dNe_si, dNe_ni, dNe_in, dIs_b, dIs_n, dIsNot_b, dIsNot_n, dIx_l, dIx_t, dSl_l, dSl_t, dEq_ti, dEq_li, D.isN, atI_0, atI_1, atI_2, atI_3, atI_4, atI_5, atI_map, map_int_inj, map_str_inj,
  fLen_t, fLen_l, fLen_s, fInt_i, fInt_b, fTup_l, fTup_t, fList_l, fList_t, fMax2_i, fMin2_i, fAbs_i, isi_int_int, isi_int_bool, isi_int_str, isi_int_tup, isi_int_lst, isi_bl_int, isi_bl_bool, isi_bl_str, isi_bl_tup, isi_str_int, isi_str_bool, isi_str_str, isi_str_tup, isi_tup_int, isi_tup_bool, isi_tup_str, isi_tup_tup, isi_lst_int, isi_lst_bool, isi_lst_str, isi_lst_tup, isi_lst_lst, isi_non_int, isi_non_bool, isi_non_str, isi_non_tup, items_t, items_l,
  List.getElem?_cons_zero, List.getElem?_cons_succ, List.set_cons_zero, List.set_cons_succ, List.map_cons, List.map_nil, List.length_cons, List.length_nil, List.cons_append, List.nil_append, List.append_nil, List.replicate_succ, List.replicate_zero, Nat.reduceAdd, Nat.reduceSub, List.head?_cons, List.tail_cons, List.take_succ_cons, List.take_zero, List.take_nil,
  Option.some.injEq, Option.map_some, Option.map_none, exists_eq_left', exists_eq_left, Rv.d.injEq, Rv.o.injEq, D.int.injEq, D.bl.injEq, D.str.injEq, D.tup.injEq, D.lst.injEq, MO.lst.injEq, List.cons.injEq, and_true, true_and, and_assoc, exists_and_left, decide_eq_true_eq, if_true, Bool.true_eq_false, Bool.false_eq_true, if_false, reduceIte, Bool.not_true, Bool.not_false, eq_self, exists_const, List.filterMap_cons_some, List.filterMap_nil, List.filterMap_cons, and_self, CMul_iff, or_true, true_or, Int.reduceLT, Int.reduceLE, Int.reduceToNat, Int.reduceNeg, Int.reduceSub, Int.reduceAdd, Int.reducePow, Nat.reducePow, Int.reduceMul, ixN_def, Int.cast_ofNat_Int, Int.reduceEq, decide_true, decide_false, dMul_i, dPow_i, strD, reduceCtorEq, ite_true, ite_false, Nat.reduceLT, Nat.reduceLeDiff, Int.reduceAbs, false_and, and_false, or_false, false_or, exists_false]
    refine ⟨_, rfl, rfl, known_s _, fun s e => by cases e; decide, ?_⟩
    rw [show isWord 65 90 (.str (Str.ofString "ZZZZZZZZ")) = true by decide]
    simp only [sSeq, sNil, sIf, sSet, sAsg, sPar, sPar3, sRet, sRetN, sExpr, sBreak, sCont, sSetIx, wVar, wC, wOp, wChain, wTb, wAnd, wOr, wNotT, wAndV, wOrV, wNotV, wIf, wNil, wCons, wTup, wLst, wLstO, wSl, wNoPart, wPart, wCB, wNeg, wOrT, wTruth, wJoin, wLc, sFor, wipeE, wKw, wYes, wCall, wCallO, wApp, iL, iT, iR1, iR2, iZ, iS, gN, gsNil, gsCons, gTn, endsOf, retR_d, retR_o, sFrz, frz_d, frz_o0, frz_o1, frz_o10, tru_l, tru_t, tru_b, tru_i, tru_n, List.eraseIdx_cons_zero, List.eraseIdx_cons_succ, exists_eq', exists_eq, shf_d, bck_d, toC_nil, toC_d, toC_o, ds_nil, ds_cons, dats_nil, dats_d, dat_d, dat_o0, dat_o1, dat_o2, startE, kg, cutE, cut1_d, cut1_n, cut1_o0, cut1_o1, zipA,
  dAdd_i, dI0_i, dMod_i, dFdiv_i, dPow_i, dLt_i, dLe_i, dGt_i, dGe_i, dLt_s, dLe_s, dGt_s, dGe_s, dEq_i, dEq_s, dEq_b, dEq_is, dEq_si, dEq_ni, dEq_in, dEq_sn, dEq_ns, dNe_i, dNe_s, dNe_b, dNe_is, dNe_si, dNe_ni, dNe_in, dIs_b, dIs_n, dIsNot_b, dIsNot_n, dIx_l, dIx_t, dSl_l, dSl_t, dEq_ti, dEq_li, D.isN, atI_0, atI_1, atI_2, atI_3, atI_4, atI_5, atI_map, map_int_inj, map_str_inj,
  fLen_t, fLen_l, fLen_s, fInt_i, fInt_b, fTup_l, fTup_t, fList_l, fList_t, fMax2_i, fMin2_i, fAbs_i, isi_int_int, isi_int_bool, isi_int_str, isi_int_tup, isi_int_lst, isi_bl_int, isi_bl_bool, isi_bl_str, isi_bl_tup, isi_str_int, isi_str_bool, isi_str_str, isi_str_tup, isi_tup_int, isi_tup_bool, isi_tup_str, isi_tup_tup, isi_lst_int, isi_lst_bool, isi_lst_str, isi_lst_tup, isi_lst_lst, isi_non_int, isi_non_bool, isi_non_str, isi_non_tup, items_t, items_l,
  List.getElem?_cons_zero, List.getElem?_cons_succ, List.set_cons_zero, List.set_cons_succ, List.map_cons, List.map_nil, List.length_cons, List.length_nil, List.cons_append, List.nil_append, List.append_nil, List.replicate_succ, List.replicate_zero, Nat.reduceAdd, Nat.reduceSub, List.head?_cons, List.tail_cons, List.take_succ_cons, List.take_zero, List.take_nil,
  Option.some.injEq, Option.map_some, Option.map_none, exists_eq_left', exists_eq_left, Rv.d.injEq, Rv.o.injEq, D.int.injEq, D.bl.injEq, D.str.injEq, D.tup.injEq, D.lst.injEq, MO.lst.injEq, List.cons.injEq, and_true, true_and, and_assoc, exists_and_left, decide_eq_true_eq, if_true, Bool.true_eq_false, Bool.false_eq_true, if_false, reduceIte, Bool.not_true, Bool.not_false, eq_self, exists_const, List.filterMap_cons_some, List.filterMap_nil, List.filterMap_cons, and_self, CMul_iff, or_true, true_or, Int.reduceLT, Int.reduceLE, Int.reduceToNat, Int.reduceNeg, Int.reduceSub, Int.reduceAdd, Int.reducePow, Nat.reducePow, Int.reduceMul, ixN_def, Int.cast_ofNat_Int, Int.reduceEq, decide_true, decide_false, dMul_i, dPow_i, strD, reduceCtorEq, ite_true, ite_false, Nat.reduceLT, Nat.reduceLeDiff, Int.reduceAbs, false_and, and_false, or_false, false_or, exists_false]
    exact h _ (ht3.mono (by omega))
end Lk00
set_option Elab.async false
set_option linter.all false
set_option maxRecDepth 100000
set_option maxHeartbeats 4000000
namespace Lk00
open PySem PySem.Spec PyProof.Rows L2 Dw
def c__law_fallen : Ct := fun rs M R => ∃ (n : Nat) (tr : MO) (ns : List Int), rs = [.o 0, .d (.tup (ns.map .int))] ∧ M = [tr] ∧ TrayOk n tr ∧ n + 2 ≤ 1000000 ∧ Srt ns ∧ ns.length ≤ 200 ∧ (∀ y ∈ ns, InR y) ∧ ∀ tr', TrayOk (n + 2) tr' → R (.d (.bl true)) [tr']
theorem atI_last2 {α : Type} (xs : List α) (u v : α) : atI (xs ++ [u] ++ [v]) (-2) = some u := by
  have hl : (xs ++ [u] ++ [v]).length = xs.length + 2 := by simp
  have e : ixN (xs ++ [u] ++ [v]).length (-2) = some xs.length := by
    unfold ixN
    rw [hl, if_neg (by decide), if_pos (by omega)]
    congr 1
    omega
  unfold atI
  rw [e]
  show (xs ++ [u] ++ [v])[xs.length]? = some u
  simp
theorem cut_m1 (ns : List Int) : Dw.cutD (ns.map D.int) none (some (-1)) = ns.dropLast.map .int := by
  rw [cut_map, cut_last]
theorem fall_rise (ms : List Int) (k : Nat) (w : Int) (hs : Srt ms) (hk : k < ms.length) (hw : ms[k] ≤ w) : rising (ms.take k ++ [w] ++ ms.drop k) = !decide (ms[k] < w) := by
  have hd : ms.drop k = ms[k] :: ms.drop (k + 1) := List.drop_eq_getElem_cons hk
  have hm : ms[k] ∈ ms.drop k := by rw [hd]; exact List.mem_cons_self
  have hs2 := hs
  rw [← List.take_append_drop k ms] at hs2
  have p := List.pairwise_append.mp hs2
  by_cases h : ms[k] < w
  · rw [decide_eq_true h]
    cases e : rising (ms.take k ++ [w] ++ ms.drop k) with
    | false => rfl
    | true =>
      have := (List.pairwise_append.mp ((srt_rising _).mp e)).2.2 w (by simp) ms[k] hm
      omega
  · rw [decide_eq_false h, Bool.not_false]
    have ew : w = ms[k] := by omega
    refine (srt_rising _).mpr ?_
    rw [ew, List.append_assoc]
    refine List.pairwise_append.mpr ⟨p.1, ?_, fun a ha b hb => ?_⟩
    · refine List.pairwise_cons.mpr ⟨fun y hy => ?_, p.2.1⟩
      rw [hd] at hy
      rcases List.mem_cons.mp hy with rfl | hy
      · exact Int.le_refl _
      · have := p.2.1
        rw [hd] at this
        exact (List.pairwise_cons.mp this).1 y hy
    · rcases List.mem_append.mp hb with hb | hb
      · have : b = ms[k] := by simpa using hb
        rw [this]
        exact p.2.2 a ha _ hm
      · exact p.2.2 a ha b hb
theorem fallen_cases (ns : List Int) (hs : Srt ns) (hr : ∀ y ∈ ns, InR y) :
    (∃ ms : List Int, ms ≠ [] ∧ Srt ms ∧ ms.length ≤ ns.length + 1 ∧ (∀ y ∈ ms, InR y) ∧ ns = [] ∧ ms = [3]) ∨
    (∃ ms : List Int, ms ≠ [] ∧ Srt ms ∧ ms.length ≤ ns.length + 1 ∧ (∀ y ∈ ms, InR y) ∧ ns = [1000] ∧ ms = [3] ∧ True) ∨
    (∃ ms : List Int, ms ≠ [] ∧ Srt ms ∧ ms.length ≤ ns.length + 1 ∧ (∀ y ∈ ms, InR y) ∧ ∃ v, ¬ ((ns.length : Int) = 0) ∧ atI ns (-1) = some v ∧ v = 1000 ∧ ¬ (ns.dropLast = []) ∧ ∃ u, atI ns (-2) = some u ∧ u < 3 ∧ ms = ns.dropLast ++ [3]) ∨
    (∃ ms : List Int, ms ≠ [] ∧ Srt ms ∧ ms.length ≤ ns.length + 1 ∧ (∀ y ∈ ms, InR y) ∧ ∃ v, ¬ ((ns.length : Int) = 0) ∧ atI ns (-1) = some v ∧ v = 1000 ∧ ¬ (ns.dropLast = []) ∧ ∃ u, atI ns (-2) = some u ∧ ¬ u < 3 ∧ ms = ns ++ [1000]) ∨
    (∃ ms : List Int, ms ≠ [] ∧ Srt ms ∧ ms.length ≤ ns.length + 1 ∧ (∀ y ∈ ms, InR y) ∧ ∃ v, ¬ ((ns.length : Int) = 0) ∧ atI ns (-1) = some v ∧ ¬ v = 1000 ∧ ms = ns) := by
  rcases List.eq_nil_or_concat ns with rfl | ⟨l, v, rfl⟩
  · exact .inl ⟨[3], by simp, List.pairwise_singleton _ _, by simp, fun y hy => by have : y = 3 := by simpa using hy
                                                                                   unfold InR; omega, rfl, rfl⟩
  · rw [List.concat_eq_append] at hs hr ⊢
    have z0 : ¬ (((l ++ [v]).length : Int) = 0) := by simp; omega
    have hs' := List.pairwise_append.mp hs
    by_cases hv : v = 1000
    · subst hv
      rcases List.eq_nil_or_concat l with rfl | ⟨k, u, rfl⟩
      · exact .inr (.inl ⟨[3], by simp, List.pairwise_singleton _ _, by simp, fun y hy => by have : y = 3 := by simpa using hy
                                                                                             unfold InR; omega, rfl, rfl, trivial⟩)
      · rw [List.concat_eq_append] at hs hr hs' z0 ⊢
        have ks := List.pairwise_append.mp hs'.1
        by_cases hu : u < 3
        · refine .inr (.inr (.inl ⟨(k ++ [u]) ++ [3], by simp, ?_, by simp, fun y hy => ?_, 1000, z0, atI_last _ _, rfl, by simp, u, atI_last2 _ _ _, hu, by simp⟩))
          · refine List.pairwise_append.mpr ⟨hs'.1, List.pairwise_singleton _ _, fun a ha b hb => ?_⟩
            have hb : b = 3 := by simpa using hb
            rcases List.mem_append.mp ha with ha | ha
            · have := ks.2.2 a ha u (by simp); omega
            · have : a = u := by simpa using ha
              omega
          · rcases List.mem_append.mp hy with hy | hy
            · exact hr y (List.mem_append_left _ hy)
            · have : y = 3 := by simpa using hy
              unfold InR; omega
        · refine .inr (.inr (.inr (.inl ⟨(k ++ [u]) ++ [1000] ++ [1000], by simp, ?_, by simp, fun y hy => ?_, 1000, z0, atI_last _ _, rfl, by simp, u, atI_last2 _ _ _, hu, rfl⟩)))
          · refine List.pairwise_append.mpr ⟨hs, List.pairwise_singleton _ _, fun a ha b hb => ?_⟩
            have hb : b = 1000 := by simpa using hb
            have := (hr a ha).2; omega
          · rcases List.mem_append.mp hy with hy | hy
            · exact hr y hy
            · have : y = 1000 := by simpa using hy
              unfold InR; omega
    · exact .inr (.inr (.inr (.inr ⟨_, by simp, hs, by omega, hr, v, z0, atI_last _ _, hv, rfl⟩)))
theorem ln__law_fallen : ∀ rs M R, c__law_fallen rs M R → rs.length = 2 ∧ M.length = 1 := by
  rintro rs M R ⟨n, tr, ns, rfl, rfl, _⟩; exact ⟨rfl, rfl⟩
set_option maxHeartbeats 8000000 in
theorem ok__law_fallen {P : Program} {w : World} {K : PySem.W.Frag} {mg : Str → Option Value} {base : Heap} (T : Tx K mg) : FnOk P w K mg base CX0 2 T.a__law_fallen T.fd__law_fallen ["tray", "row"] (spD K c__law_fallen) := by
  refine fnD (n0 := 1) T.F__law_fallen sc__law_fallen ln__law_fallen fun cdv A outer s H E hr => ⟨_, (qss_cons (qs_if (QW.t (qw_or (qt_eq (u64 hr) (qe_len (by rfl) T.n_len (qa_cons (qv 1) qa_nil)) qe_int) (qw_or1 (qt_eq (u64 hr) (qe_ix (qv 1) (qe_neg qe_int)) qe_int)))) (qss_one (qs_set (i := 1) sc__law_fallen.nd rfl (.inl rfl) (qe_if (QW.t (qw_or (qt_eq (u64 hr) (qe_len (by rfl) T.n_len (qa_cons (qv 1) qa_nil)) qe_int) (qw_or (qt_eq (u64 hr) (qe_sl (qv 1) qo_none (qo_some (qe_neg qe_int))) (qe_tup qa_nil)) (qw_or1 (qt_lt (qe_ix (qv 1) (qe_neg qe_int)) qe_int))))) (qe_add (qe_sl (qv 1) qo_none (qo_some (qe_neg qe_int))) (qe_tup (qa_cons qe_int qa_nil))) (qe_add (qv 1) (qe_tup (qa_cons qe_int qa_nil)))))) qss_nil) (qss_cons (qs_set (i := 2) sc__law_fallen.nd rfl (.inl rfl) (qe_callO 0 (ok__law_pick T) (hr.mono (by decide)) (by rfl) T.g__law_pick T.F__law_pick.kp (b__law_pick T) (qa_cons (qv 0) (qa_cons (qe_len (by rfl) T.n_len (qa_cons (qv 1) qa_nil)) qa_nil)))) (qss_cons (qs_set (i := 3) sc__law_fallen.nd rfl (.inl rfl) (qe_min2 rfl (by rfl) T.n_min (qa_cons qe_int (qa_cons (qe_add (qe_add (qe_ix (qv 1) (qv 2)) qe_int) (qe_callO 0 (ok__law_pick T) (hr.mono (by decide)) (by rfl) T.g__law_pick T.F__law_pick.kp (b__law_pick T) (qa_cons (qv 0) (qa_cons qe_int qa_nil)))) qa_nil)))) (qss_cons (qs_set (i := 4) sc__law_fallen.nd rfl (.inl rfl) (qe_not (qe_gt (qv 3) (qe_ix (qv 1) (qv 2))))) (qss_one (qs_ret (qe_call (ok__law_same T) (hr.mono (by decide)) (by rfl) T.g__law_same T.F__law_same.kp (b__law_same T) (qa_cons (qe_call (ok_is_rising T) (hr.mono (by decide)) (by rfl) T.g_is_rising T.F_is_rising.kp (b_is_rising T) (qa_cons (qe_add (qe_add (qe_sl (qv 1) qo_none (qo_some (qv 2))) (qe_tup (qa_cons (qv 3) qa_nil))) (qe_sl (qv 1) (qo_some (qv 2)) qo_none)) qa_nil)) (qa_cons (qv 4) qa_nil))))))))), fun rs M R h => ?_⟩
  obtain ⟨n, tr, ns, rfl, rfl, ht, hn, hs, hl, hr, h⟩ := h
  rcases fallen_cases ns hs hr with ⟨ms, m0, m1, m2, m3, rfl, c1⟩ | ⟨ms, m0, m1, m2, m3, rfl, c1, c2⟩ | ⟨ms, m0, m1, m2, m3, v, c0, c1, c2, c3, u, c4, c5, c6⟩ | ⟨ms, m0, m1, m2, m3, v, c0, c1, c2, c3, u, c4, c5, c6⟩ | ⟨ms, m0, m1, m2, m3, v, c0, c1, c2, rfl⟩
  simp only [sSeq, sNil, sIf, sSet, sAsg, sPar, sPar3, sRet, sRetN, sExpr, sBreak, sCont, sSetIx, wVar, wC, wOp, wChain, wTb, wAnd, wOr, wNotT, wAndV, wOrV, wNotV, wIf, wNil, wCons, wTup, wLst, wLstO, wSl, wNoPart, wPart, wCB, wNeg, wOrT, wTruth, wJoin, wLc, sFor, wipeE, wKw, wYes, wCall, wCallO, wApp, iL, iT, iR1, iR2, iZ, iS, gN, gsNil, gsCons, gTn, endsOf, retR_d, retR_o, sFrz, frz_d, frz_o0, frz_o1, frz_o10, tru_l, tru_t, tru_b, tru_i, tru_n, List.eraseIdx_cons_zero, List.eraseIdx_cons_succ, exists_eq', exists_eq, shf_d, bck_d, toC_nil, toC_d, toC_o, ds_nil, ds_cons, dats_nil, dats_d, dat_d, dat_o0, dat_o1, dat_o2, startE, kg, cutE, cut1_d, cut1_n, cut1_o0, cut1_o1, zipA,
  dAdd_i, dI0_i, dMod_i, dFdiv_i, dPow_i, dLt_i, dLe_i, dGt_i, dGe_i, dLt_s, dLe_s, dGt_s, dGe_s, dEq_i, dEq_s, dEq_b, dEq_is, dEq_si, dEq_ni, dEq_in, dEq_sn, dEq_ns, dNe_i, dNe_s, dNe_b, dNe_is, dNe_si, dNe_ni, dNe_in, dIs_b, dIs_n, dIsNot_b, dIsNot_n, dIx_l, dIx_t, dSl_l, dSl_t, dEq_ti, dEq_li, D.isN, atI_0, atI_1, atI_2, atI_3, atI_4, atI_5, atI_map, map_int_inj, map_str_inj,
  fLen_t, fLen_l, fLen_s, fInt_i, fInt_b, fTup_l, fTup_t, fList_l, fList_t, fMax2_i, fMin2_i, fAbs_i, isi_int_int, isi_int_bool, isi_int_str, isi_int_tup, isi_int_lst, isi_bl_int, isi_bl_bool, isi_bl_str, isi_bl_tup, isi_str_int, isi_str_bool, isi_str_str, isi_str_tup, isi_tup_int, isi_tup_bool, isi_tup_str, isi_tup_tup, isi_lst_int, isi_lst_bool, isi_lst_str, isi_lst_tup, isi_lst_lst, isi_non_int, isi_non_bool, isi_non_str, isi_non_tup, items_t, items_l,
  List.getElem?_cons_zero, List.getElem?_cons_succ, List.set_cons_zero, List.set_cons_succ, List.map_cons, List.map_nil, List.length_cons, List.length_nil, List.cons_append, List.nil_append, List.append_nil, List.replicate_succ, List.replicate_zero, Nat.reduceAdd, Nat.reduceSub, List.head?_cons, List.tail_cons, List.take_succ_cons, List.take_zero, List.take_nil,
  Option.some.injEq, Option.map_some, Option.map_none, exists_eq_left', exists_eq_left, Rv.d.injEq, Rv.o.injEq, D.int.injEq, D.bl.injEq, D.str.injEq, D.tup.injEq, D.lst.injEq, MO.lst.injEq, List.cons.injEq, and_true, true_and, and_assoc, exists_and_left, decide_eq_true_eq, if_true, Bool.true_eq_false, Bool.false_eq_true, if_false, reduceIte, Bool.not_true, Bool.not_false, eq_self, exists_const, List.filterMap_cons_some, List.filterMap_nil, List.filterMap_cons, and_self, CMul_iff, or_true, true_or, Int.reduceLT, Int.reduceLE, Int.reduceToNat, Int.reduceNeg, Int.reduceSub, Int.reduceAdd, Int.reducePow, Nat.reducePow, Int.reduceMul, ixN_def, Int.cast_ofNat_Int, Int.reduceEq, decide_true, decide_false, dMul_i, dPow_i, strD, reduceCtorEq, ite_true, ite_false, Nat.reduceLT, Nat.reduceLeDiff, Int.reduceAbs, false_and, and_false, or_false, false_or, exists_false, List.length_map, show dAdd (.tup (Dw.cutD [] none (some (-1)))) (.tup [.int 3]) = some (.tup (ms.map .int)) by rw [c1]; rfl]
  refine ⟨sz (by decide), ?_⟩
  rotate_left
  simp only [sSeq, sNil, sIf, sSet, sAsg, sPar, sPar3, sRet, sRetN, sExpr, sBreak, sCont, sSetIx, wVar, wC, wOp, wChain, wTb, wAnd, wOr, wNotT, wAndV, wOrV, wNotV, wIf, wNil, wCons, wTup, wLst, wLstO, wSl, wNoPart, wPart, wCB, wNeg, wOrT, wTruth, wJoin, wLc, sFor, wipeE, wKw, wYes, wCall, wCallO, wApp, iL, iT, iR1, iR2, iZ, iS, gN, gsNil, gsCons, gTn, endsOf, retR_d, retR_o, sFrz, frz_d, frz_o0, frz_o1, frz_o10, tru_l, tru_t, tru_b, tru_i, tru_n, List.eraseIdx_cons_zero, List.eraseIdx_cons_succ, exists_eq', exists_eq, shf_d, bck_d, toC_nil, toC_d, toC_o, ds_nil, ds_cons, dats_nil, dats_d, dat_d, dat_o0, dat_o1, dat_o2, startE, kg, cutE, cut1_d, cut1_n, cut1_o0, cut1_o1, zipA,
  dAdd_i, dI0_i, dMod_i, dFdiv_i, dPow_i, dLt_i, dLe_i, dGt_i, dGe_i, dLt_s, dLe_s, dGt_s, dGe_s, dEq_i, dEq_s, dEq_b, dEq_is, dEq_si, dEq_ni, dEq_in, dEq_sn, dEq_ns, dNe_i, dNe_s, dNe_b, dNe_is, dNe_si, dNe_ni, dNe_in, dIs_b, dIs_n, dIsNot_b, dIsNot_n, dIx_l, dIx_t, dSl_l, dSl_t, dEq_ti, dEq_li, D.isN, atI_0, atI_1, atI_2, atI_3, atI_4, atI_5, atI_map, map_int_inj, map_str_inj,
  fLen_t, fLen_l, fLen_s, fInt_i, fInt_b, fTup_l, fTup_t, fList_l, fList_t, fMax2_i, fMin2_i, fAbs_i, isi_int_int, isi_int_bool, isi_int_str, isi_int_tup, isi_int_lst, isi_bl_int, isi_bl_bool, isi_bl_str, isi_bl_tup, isi_str_int, isi_str_bool, isi_str_str, isi_str_tup, isi_tup_int, isi_tup_bool, isi_tup_str, isi_tup_tup, isi_lst_int, isi_lst_bool, isi_lst_str, isi_lst_tup, isi_lst_lst, isi_non_int, isi_non_bool, isi_non_str, isi_non_tup, items_t, items_l,
  List.getElem?_cons_zero, List.getElem?_cons_succ, List.set_cons_zero, List.set_cons_succ, List.map_cons, List.map_nil, List.length_cons, List.length_nil, List.cons_append, List.nil_append, List.append_nil, List.replicate_succ, List.replicate_zero, Nat.reduceAdd, Nat.reduceSub, List.head?_cons, List.tail_cons, List.take_succ_cons, List.take_zero, List.take_nil,
  Option.some.injEq, Option.map_some, Option.map_none, exists_eq_left', exists_eq_left, Rv.d.injEq, Rv.o.injEq, D.int.injEq, D.bl.injEq, D.str.injEq, D.tup.injEq, D.lst.injEq, MO.lst.injEq, List.cons.injEq, and_true, true_and, and_assoc, exists_and_left, decide_eq_true_eq, if_true, Bool.true_eq_false, Bool.false_eq_true, if_false, reduceIte, Bool.not_true, Bool.not_false, eq_self, exists_const, List.filterMap_cons_some, List.filterMap_nil, List.filterMap_cons, and_self, CMul_iff, or_true, true_or, Int.reduceLT, Int.reduceLE, Int.reduceToNat, Int.reduceNeg, Int.reduceSub, Int.reduceAdd, Int.reducePow, Nat.reducePow, Int.reduceMul, ixN_def, Int.cast_ofNat_Int, Int.reduceEq, decide_true, decide_false, dMul_i, dPow_i, strD, reduceCtorEq, ite_true, ite_false, Nat.reduceLT, Nat.reduceLeDiff, Int.reduceAbs, false_and, and_false, or_false, false_or, exists_false, List.length_map, show atI [D.int 1000] (-1) = some (.int 1000) from atI_last [] _, show dEq (.tup (Dw.cutD [.int 1000] none (some (-1)))) (.tup []) = some (.bl true) from dEq_ok rfl rfl rfl, show dAdd (.tup (Dw.cutD [.int 1000] none (some (-1)))) (.tup [.int 3]) = some (.tup (ms.map .int)) by rw [c1]; rfl]
  refine ⟨sz (by decide), sz (by decide), ?_⟩
  rotate_left
  have q1 : dEq (.tup (ns.dropLast.map .int)) (.tup []) = some (.bl false) := by
    have := dEq_ti ns.dropLast []
    rw [List.map_nil] at this
    rw [this]; simp only [c3, decide_false]
  have q2 : dAdd (.tup (ns.dropLast.map .int)) (.tup [.int 3]) = some (.tup (ms.map .int)) := by
    rw [dAdd_t, if_pos (sz (by simp; omega)), c6]; simp
  simp only [sSeq, sNil, sIf, sSet, sAsg, sPar, sPar3, sRet, sRetN, sExpr, sBreak, sCont, sSetIx, wVar, wC, wOp, wChain, wTb, wAnd, wOr, wNotT, wAndV, wOrV, wNotV, wIf, wNil, wCons, wTup, wLst, wLstO, wSl, wNoPart, wPart, wCB, wNeg, wOrT, wTruth, wJoin, wLc, sFor, wipeE, wKw, wYes, wCall, wCallO, wApp, iL, iT, iR1, iR2, iZ, iS, gN, gsNil, gsCons, gTn, endsOf, retR_d, retR_o, sFrz, frz_d, frz_o0, frz_o1, frz_o10, tru_l, tru_t, tru_b, tru_i, tru_n, List.eraseIdx_cons_zero, List.eraseIdx_cons_succ, exists_eq', exists_eq, shf_d, bck_d, toC_nil, toC_d, toC_o, ds_nil, ds_cons, dats_nil, dats_d, dat_d, dat_o0, dat_o1, dat_o2, startE, kg, cutE, cut1_d, cut1_n, cut1_o0, cut1_o1, zipA,
  dAdd_i, dI0_i, dMod_i, dFdiv_i, dPow_i, dLt_i, dLe_i, dGt_i, dGe_i, dLt_s, dLe_s, dGt_s, dGe_s, dEq_i, dEq_s, dEq_b, dEq_is, dEq_si, dEq_ni, dEq_in, dEq_sn, dEq_ns, dNe_i, dNe_s, dNe_b, dNe_is, dNe_si, dNe_ni, dNe_in, dIs_b, dIs_n, dIsNot_b, dIsNot_n, dIx_l, dIx_t, dSl_l, dSl_t, dEq_ti, dEq_li, D.isN, atI_0, atI_1, atI_2, atI_3, atI_4, atI_5, atI_map, map_int_inj, map_str_inj,
  fLen_t, fLen_l, fLen_s, fInt_i, fInt_b, fTup_l, fTup_t, fList_l, fList_t, fMax2_i, fMin2_i, fAbs_i, isi_int_int, isi_int_bool, isi_int_str, isi_int_tup, isi_int_lst, isi_bl_int, isi_bl_bool, isi_bl_str, isi_bl_tup, isi_str_int, isi_str_bool, isi_str_str, isi_str_tup, isi_tup_int, isi_tup_bool, isi_tup_str, isi_tup_tup, isi_lst_int, isi_lst_bool, isi_lst_str, isi_lst_tup, isi_lst_lst, isi_non_int, isi_non_bool, isi_non_str, isi_non_tup, items_t, items_l,
  List.getElem?_cons_zero, List.getElem?_cons_succ, List.set_cons_zero, List.set_cons_succ, List.map_cons, List.map_nil, List.length_cons, List.length_nil, List.cons_append, List.nil_append, List.append_nil, List.replicate_succ, List.replicate_zero, Nat.reduceAdd, Nat.reduceSub, List.head?_cons, List.tail_cons, List.take_succ_cons, List.take_zero, List.take_nil,
  Option.some.injEq, Option.map_some, Option.map_none, exists_eq_left', exists_eq_left, Rv.d.injEq, Rv.o.injEq, D.int.injEq, D.bl.injEq, D.str.injEq, D.tup.injEq, D.lst.injEq, MO.lst.injEq, List.cons.injEq, and_true, true_and, and_assoc, exists_and_left, decide_eq_true_eq, if_true, Bool.true_eq_false, Bool.false_eq_true, if_false, reduceIte, Bool.not_true, Bool.not_false, eq_self, exists_const, List.filterMap_cons_some, List.filterMap_nil, List.filterMap_cons, and_self, CMul_iff, or_true, true_or, Int.reduceLT, Int.reduceLE, Int.reduceToNat, Int.reduceNeg, Int.reduceSub, Int.reduceAdd, Int.reducePow, Nat.reducePow, Int.reduceMul, ixN_def, Int.cast_ofNat_Int, Int.reduceEq, decide_true, decide_false, dMul_i, dPow_i, strD, reduceCtorEq, ite_true, ite_false, Nat.reduceLT, Nat.reduceLeDiff, Int.reduceAbs, false_and, and_false, or_false, false_or, exists_false, List.length_map, c0, c1, c2, cut_m1, q1, c4, c5, q2]
  refine ⟨sz (by decide), sz (by decide), ?_⟩
  rotate_left
  have q1 : dEq (.tup (ns.dropLast.map .int)) (.tup []) = some (.bl false) := by
    have := dEq_ti ns.dropLast []
    rw [List.map_nil] at this
    rw [this]; simp only [c3, decide_false]
  have q2 : dAdd (.tup (ns.map .int)) (.tup [.int 1000]) = some (.tup (ms.map .int)) := by
    rw [dAdd_t, if_pos (sz (by simp; omega)), c6]; simp
  simp only [sSeq, sNil, sIf, sSet, sAsg, sPar, sPar3, sRet, sRetN, sExpr, sBreak, sCont, sSetIx, wVar, wC, wOp, wChain, wTb, wAnd, wOr, wNotT, wAndV, wOrV, wNotV, wIf, wNil, wCons, wTup, wLst, wLstO, wSl, wNoPart, wPart, wCB, wNeg, wOrT, wTruth, wJoin, wLc, sFor, wipeE, wKw, wYes, wCall, wCallO, wApp, iL, iT, iR1, iR2, iZ, iS, gN, gsNil, gsCons, gTn, endsOf, retR_d, retR_o, sFrz, frz_d, frz_o0, frz_o1, frz_o10, tru_l, tru_t, tru_b, tru_i, tru_n, List.eraseIdx_cons_zero, List.eraseIdx_cons_succ, exists_eq', exists_eq, shf_d, bck_d, toC_nil, toC_d, toC_o, ds_nil, ds_cons, dats_nil, dats_d, dat_d, dat_o0, dat_o1, dat_o2, startE, kg, cutE, cut1_d, cut1_n, cut1_o0, cut1_o1, zipA,
  dAdd_i, dI0_i, dMod_i, dFdiv_i, dPow_i, dLt_i, dLe_i, dGt_i, dGe_i, dLt_s, dLe_s, dGt_s, dGe_s, dEq_i, dEq_s, dEq_b, dEq_is, dEq_si, dEq_ni, dEq_in, dEq_sn, dEq_ns, dNe_i, dNe_s, dNe_b, dNe_is, dNe_si, dNe_ni, dNe_in, dIs_b, dIs_n, dIsNot_b, dIsNot_n, dIx_l, dIx_t, dSl_l, dSl_t, dEq_ti, dEq_li, D.isN, atI_0, atI_1, atI_2, atI_3, atI_4, atI_5, atI_map, map_int_inj, map_str_inj,
  fLen_t, fLen_l, fLen_s, fInt_i, fInt_b, fTup_l, fTup_t, fList_l, fList_t, fMax2_i, fMin2_i, fAbs_i, isi_int_int, isi_int_bool, isi_int_str, isi_int_tup, isi_int_lst, isi_bl_int, isi_bl_bool, isi_bl_str, isi_bl_tup, isi_str_int, isi_str_bool, isi_str_str, isi_str_tup, isi_tup_int, isi_tup_bool, isi_tup_str, isi_tup_tup, isi_lst_int, isi_lst_bool, isi_lst_str, isi_lst_tup, isi_lst_lst, isi_non_int, isi_non_bool, isi_non_str, isi_non_tup, items_t, items_l,
  List.getElem?_cons_zero, List.getElem?_cons_succ, List.set_cons_zero, List.set_cons_succ, List.map_cons, List.map_nil, List.length_cons, List.length_nil, List.cons_append, List.nil_append, List.append_nil, List.replicate_succ, List.replicate_zero, Nat.reduceAdd, Nat.reduceSub, List.head?_cons, List.tail_cons, List.take_succ_cons, List.take_zero, List.take_nil,
  Option.some.injEq, Option.map_some, Option.map_none, exists_eq_left', exists_eq_left, Rv.d.injEq, Rv.o.injEq, D.int.injEq, D.bl.injEq, D.str.injEq, D.tup.injEq, D.lst.injEq, MO.lst.injEq, List.cons.injEq, and_true, true_and, and_assoc, exists_and_left, decide_eq_true_eq, if_true, Bool.true_eq_false, Bool.false_eq_true, if_false, reduceIte, Bool.not_true, Bool.not_false, eq_self, exists_const, List.filterMap_cons_some, List.filterMap_nil, List.filterMap_cons, and_self, CMul_iff, or_true, true_or, Int.reduceLT, Int.reduceLE, Int.reduceToNat, Int.reduceNeg, Int.reduceSub, Int.reduceAdd, Int.reducePow, Nat.reducePow, Int.reduceMul, ixN_def, Int.cast_ofNat_Int, Int.reduceEq, decide_true, decide_false, dMul_i, dPow_i, strD, reduceCtorEq, ite_true, ite_false, Nat.reduceLT, Nat.reduceLeDiff, Int.reduceAbs, false_and, and_false, or_false, false_or, exists_false, List.length_map, c0, c1, c2, cut_m1, q1, c4, c5, q2]
  refine ⟨sz (by decide), sz (by decide), ?_⟩
  rotate_left
  simp only [sSeq, sNil, sIf, sSet, sAsg, sPar, sPar3, sRet, sRetN, sExpr, sBreak, sCont, sSetIx, wVar, wC, wOp, wChain, wTb, wAnd, wOr, wNotT, wAndV, wOrV, wNotV, wIf, wNil, wCons, wTup, wLst, wLstO, wSl, wNoPart, wPart, wCB, wNeg, wOrT, wTruth, wJoin, wLc, sFor, wipeE, wKw, wYes, wCall, wCallO, wApp, iL, iT, iR1, iR2, iZ, iS, gN, gsNil, gsCons, gTn, endsOf, retR_d, retR_o, sFrz, frz_d, frz_o0, frz_o1, frz_o10, tru_l, tru_t, tru_b, tru_i, tru_n, List.eraseIdx_cons_zero, List.eraseIdx_cons_succ, exists_eq', exists_eq, shf_d, bck_d, toC_nil, toC_d, toC_o, ds_nil, ds_cons, dats_nil, dats_d, dat_d, dat_o0, dat_o1, dat_o2, startE, kg, cutE, cut1_d, cut1_n, cut1_o0, cut1_o1, zipA,
  dAdd_i, dI0_i, dMod_i, dFdiv_i, dPow_i, dLt_i, dLe_i, dGt_i, dGe_i, dLt_s, dLe_s, dGt_s, dGe_s, dEq_i, dEq_s, dEq_b, dEq_is, dEq_si, dEq_ni, dEq_in, dEq_sn, dEq_ns, dNe_i, dNe_s, dNe_b, dNe_is, dNe_si, dNe_ni, dNe_in, dIs_b, dIs_n, dIsNot_b, dIsNot_n, dIx_l, dIx_t, dSl_l, dSl_t, dEq_ti, dEq_li, D.isN, atI_0, atI_1, atI_2, atI_3, atI_4, atI_5, atI_map, map_int_inj, map_str_inj,
  fLen_t, fLen_l, fLen_s, fInt_i, fInt_b, fTup_l, fTup_t, fList_l, fList_t, fMax2_i, fMin2_i, fAbs_i, isi_int_int, isi_int_bool, isi_int_str, isi_int_tup, isi_int_lst, isi_bl_int, isi_bl_bool, isi_bl_str, isi_bl_tup, isi_str_int, isi_str_bool, isi_str_str, isi_str_tup, isi_tup_int, isi_tup_bool, isi_tup_str, isi_tup_tup, isi_lst_int, isi_lst_bool, isi_lst_str, isi_lst_tup, isi_lst_lst, isi_non_int, isi_non_bool, isi_non_str, isi_non_tup, items_t, items_l,
  List.getElem?_cons_zero, List.getElem?_cons_succ, List.set_cons_zero, List.set_cons_succ, List.map_cons, List.map_nil, List.length_cons, List.length_nil, List.cons_append, List.nil_append, List.append_nil, List.replicate_succ, List.replicate_zero, Nat.reduceAdd, Nat.reduceSub, List.head?_cons, List.tail_cons, List.take_succ_cons, List.take_zero, List.take_nil,
  Option.some.injEq, Option.map_some, Option.map_none, exists_eq_left', exists_eq_left, Rv.d.injEq, Rv.o.injEq, D.int.injEq, D.bl.injEq, D.str.injEq, D.tup.injEq, D.lst.injEq, MO.lst.injEq, List.cons.injEq, and_true, true_and, and_assoc, exists_and_left, decide_eq_true_eq, if_true, Bool.true_eq_false, Bool.false_eq_true, if_false, reduceIte, Bool.not_true, Bool.not_false, eq_self, exists_const, List.filterMap_cons_some, List.filterMap_nil, List.filterMap_cons, and_self, CMul_iff, or_true, true_or, Int.reduceLT, Int.reduceLE, Int.reduceToNat, Int.reduceNeg, Int.reduceSub, Int.reduceAdd, Int.reducePow, Nat.reducePow, Int.reduceMul, ixN_def, Int.cast_ofNat_Int, Int.reduceEq, decide_true, decide_false, dMul_i, dPow_i, strD, reduceCtorEq, ite_true, ite_false, Nat.reduceLT, Nat.reduceLeDiff, Int.reduceAbs, false_and, and_false, or_false, false_or, exists_false, List.length_map, c0, c1, c2]
  rotate_left
  all_goals
    refine ⟨n, tr, ms.length, rfl, rfl, ht, by omega, by have := List.length_pos_iff.mpr m0; omega, fun r t1 r0 r1 ht1 => ?_⟩
    obtain ⟨k, rfl⟩ := Int.eq_ofNat_of_zero_le r0
    have hk : k < ms.length := by omega
    have hg := atI_nat (List.getElem?_eq_getElem hk)
    have hgr := m3 _ (List.getElem_mem hk)
    simp only [sSeq, sNil, sIf, sSet, sAsg, sPar, sPar3, sRet, sRetN, sExpr, sBreak, sCont, sSetIx, wVar, wC, wOp, wChain, wTb, wAnd, wOr, wNotT, wAndV, wOrV, wNotV, wIf, wNil, wCons, wTup, wLst, wLstO, wSl, wNoPart, wPart, wCB, wNeg, wOrT, wTruth, wJoin, wLc, sFor, wipeE, wKw, wYes, wCall, wCallO, wApp, iL, iT, iR1, iR2, iZ, iS, gN, gsNil, gsCons, gTn, endsOf, retR_d, retR_o, sFrz, frz_d, frz_o0, frz_o1, frz_o10, tru_l, tru_t, tru_b, tru_i, tru_n, List.eraseIdx_cons_zero, List.eraseIdx_cons_succ, exists_eq', exists_eq, shf_d, bck_d, toC_nil, toC_d, toC_o, ds_nil, ds_cons, dats_nil, dats_d, dat_d, dat_o0, dat_o1, dat_o2, startE, kg, cutE, cut1_d, cut1_n, cut1_o0, cut1_o1, zipA,
  dAdd_i, dI0_i, dMod_i, dFdiv_i, dPow_i, dLt_i, dLe_i, dGt_i, dGe_i, dLt_s, dLe_s, dGt_s, dGe_s, dEq_i, dEq_s, dEq_b, dEq_is, dEq_si, dEq_ni, dEq_in, dEq_sn, dEq_ns, dNe_i, dNe_s, dNe_b, dNe_is, dNe_si, dNe_ni, dNe_in, dIs_b, dIs_n, dIsNot_b, dIsNot_n, dIx_l, dIx_t, dSl_l, dSl_t, dEq_ti, dEq_li, D.isN, atI_0, atI_1, atI_2, atI_3, atI_4, atI_5, atI_map, map_int_inj, map_str_inj,
  fLen_t, fLen_l, fLen_s, fInt_i, fInt_b, fTup_l, fTup_t, fList_l, fList_t, fMax2_i, fMin2_i, fAbs_i, isi_int_int, isi_int_bool, isi_int_str, isi_int_tup, isi_int_lst, isi_bl_int, isi_bl_bool, isi_bl_str, isi_bl_tup, isi_str_int, isi_str_bool, isi_str_str, isi_str_tup, isi_tup_int, isi_tup_bool, isi_tup_str, isi_tup_tup, isi_lst_int, isi_lst_bool, isi_lst_str, isi_lst_tup, isi_lst_lst, isi_non_int, isi_non_bool, isi_non_str, isi_non_tup, items_t, items_l,
  List.getElem?_cons_zero, List.getElem?_cons_succ, List.set_cons_zero, List.set_cons_succ, List.map_cons, List.map_nil, List.length_cons, List.length_nil, List.cons_append, List.nil_append, List.append_nil, List.replicate_succ, List.replicate_zero, Nat.reduceAdd, Nat.reduceSub, List.head?_cons, List.tail_cons, List.take_succ_cons, List.take_zero, List.take_nil,
  Option.some.injEq, Option.map_some, Option.map_none, exists_eq_left', exists_eq_left, Rv.d.injEq, Rv.o.injEq, D.int.injEq, D.bl.injEq, D.str.injEq, D.tup.injEq, D.lst.injEq, MO.lst.injEq, List.cons.injEq, and_true, true_and, and_assoc, exists_and_left, decide_eq_true_eq, if_true, Bool.true_eq_false, Bool.false_eq_true, if_false, reduceIte, Bool.not_true, Bool.not_false, eq_self, exists_const, List.filterMap_cons_some, List.filterMap_nil, List.filterMap_cons, and_self, CMul_iff, or_true, true_or, Int.reduceLT, Int.reduceLE, Int.reduceToNat, Int.reduceNeg, Int.reduceSub, Int.reduceAdd, Int.reducePow, Nat.reducePow, Int.reduceMul, ixN_def, Int.cast_ofNat_Int, Int.reduceEq, decide_true, decide_false, dMul_i, dPow_i, strD, reduceCtorEq, ite_true, ite_false, Nat.reduceLT, Nat.reduceLeDiff, Int.reduceAbs, false_and, and_false, or_false, false_or, exists_false, hg]
    refine ⟨n + 1, t1, 9, rfl, rfl, ht1, by omega, by omega, fun q t2 q0 q1 ht2 => ?_⟩
    simp only [sSeq, sNil, sIf, sSet, sAsg, sPar, sPar3, sRet, sRetN, sExpr, sBreak, sCont, sSetIx, wVar, wC, wOp, wChain, wTb, wAnd, wOr, wNotT, wAndV, wOrV, wNotV, wIf, wNil, wCons, wTup, wLst, wLstO, wSl, wNoPart, wPart, wCB, wNeg, wOrT, wTruth, wJoin, wLc, sFor, wipeE, wKw, wYes, wCall, wCallO, wApp, iL, iT, iR1, iR2, iZ, iS, gN, gsNil, gsCons, gTn, endsOf, retR_d, retR_o, sFrz, frz_d, frz_o0, frz_o1, frz_o10, tru_l, tru_t, tru_b, tru_i, tru_n, List.eraseIdx_cons_zero, List.eraseIdx_cons_succ, exists_eq', exists_eq, shf_d, bck_d, toC_nil, toC_d, toC_o, ds_nil, ds_cons, dats_nil, dats_d, dat_d, dat_o0, dat_o1, dat_o2, startE, kg, cutE, cut1_d, cut1_n, cut1_o0, cut1_o1, zipA,
  dAdd_i, dI0_i, dMod_i, dFdiv_i, dPow_i, dLt_i, dLe_i, dGt_i, dGe_i, dLt_s, dLe_s, dGt_s, dGe_s, dEq_i, dEq_s, dEq_b, dEq_is, dEq_si, dEq_ni, dEq_in, dEq_sn, dEq_ns, dNe_i, dNe_s, dNe_b, dNe_is, dNe_si, dNe_ni, dNe_in, dIs_b, dIs_n, dIsNot_b, dIsNot_n, dIx_l, dIx_t, dSl_l, dSl_t, dEq_ti, dEq_li, D.isN, atI_0, atI_1, atI_2, atI_3, atI_4, atI_5, atI_map, map_int_inj, map_str_inj,
  fLen_t, fLen_l, fLen_s, fInt_i, fInt_b, fTup_l, fTup_t, fList_l, fList_t, fMax2_i, fMin2_i, fAbs_i, isi_int_int, isi_int_bool, isi_int_str, isi_int_tup, isi_int_lst, isi_bl_int, isi_bl_bool, isi_bl_str, isi_bl_tup, isi_str_int, isi_str_bool, isi_str_str, isi_str_tup, isi_tup_int, isi_tup_bool, isi_tup_str, isi_tup_tup, isi_lst_int, isi_lst_bool, isi_lst_str, isi_lst_tup, isi_lst_lst, isi_non_int, isi_non_bool, isi_non_str, isi_non_tup, items_t, items_l,
  List.getElem?_cons_zero, List.getElem?_cons_succ, List.set_cons_zero, List.set_cons_succ, List.map_cons, List.map_nil, List.length_cons, List.length_nil, List.cons_append, List.nil_append, List.append_nil, List.replicate_succ, List.replicate_zero, Nat.reduceAdd, Nat.reduceSub, List.head?_cons, List.tail_cons, List.take_succ_cons, List.take_zero, List.take_nil,
  Option.some.injEq, Option.map_some, Option.map_none, exists_eq_left', exists_eq_left, Rv.d.injEq, Rv.o.injEq, D.int.injEq, D.bl.injEq, D.str.injEq, D.tup.injEq, D.lst.injEq, MO.lst.injEq, List.cons.injEq, and_true, true_and, and_assoc, exists_and_left, decide_eq_true_eq, if_true, Bool.true_eq_false, Bool.false_eq_true, if_false, reduceIte, Bool.not_true, Bool.not_false, eq_self, exists_const, List.filterMap_cons_some, List.filterMap_nil, List.filterMap_cons, and_self, CMul_iff, or_true, true_or, Int.reduceLT, Int.reduceLE, Int.reduceToNat, Int.reduceNeg, Int.reduceSub, Int.reduceAdd, Int.reducePow, Nat.reducePow, Int.reduceMul, ixN_def, Int.cast_ofNat_Int, Int.reduceEq, decide_true, decide_false, dMul_i, dPow_i, strD, reduceCtorEq, ite_true, ite_false, Nat.reduceLT, Nat.reduceLeDiff, Int.reduceAbs, false_and, and_false, or_false, false_or, exists_false, hg]
    have hw := fall_rise ms k (min 1000 (ms[k] + 1 + q)) m1 hk (by have := hgr.2; omega)
    have hl2 : ms.length ≤ 201 := by first | omega | (simp at m2; omega)
    rw [cut_map, cut_map, cut_take, cut_drop]
    refine ⟨sz (by decide), _, by rw [dAdd_t, if_pos (sz (by simp; omega))], _, by rw [dAdd_t, if_pos (sz (by simp; omega))], ms.take k ++ [min 1000 (ms[k] + 1 + q)] ++ ms.drop k, by simp, rfl, by simp; omega, ?_⟩
    rw [hw]
    simp only [sSeq, sNil, sIf, sSet, sAsg, sPar, sPar3, sRet, sRetN, sExpr, sBreak, sCont, sSetIx, wVar, wC, wOp, wChain, wTb, wAnd, wOr, wNotT, wAndV, wOrV, wNotV, wIf, wNil, wCons, wTup, wLst, wLstO, wSl, wNoPart, wPart, wCB, wNeg, wOrT, wTruth, wJoin, wLc, sFor, wipeE, wKw, wYes, wCall, wCallO, wApp, iL, iT, iR1, iR2, iZ, iS, gN, gsNil, gsCons, gTn, endsOf, retR_d, retR_o, sFrz, frz_d, frz_o0, frz_o1, frz_o10, tru_l, tru_t, tru_b, tru_i, tru_n, List.eraseIdx_cons_zero, List.eraseIdx_cons_succ, exists_eq', exists_eq, shf_d, bck_d, toC_nil, toC_d, toC_o, ds_nil, ds_cons, dats_nil, dats_d, dat_d, dat_o0, dat_o1, dat_o2, startE, kg, cutE, cut1_d, cut1_n, cut1_o0, cut1_o1, zipA,
  dAdd_i, dI0_i, dMod_i, dFdiv_i, dPow_i, dLt_i, dLe_i, dGt_i, dGe_i, dLt_s, dLe_s, dGt_s, dGe_s, dEq_i, dEq_s, dEq_b, dEq_is, dEq_si, dEq_ni, dEq_in, dEq_sn, dEq_ns, dNe_i, dNe_s, dNe_b, dNe_is, dNe_si, dNe_ni, dNe_in, dIs_b, dIs_n, dIsNot_b, dIsNot_n, dIx_l, dIx_t, dSl_l, dSl_t, dEq_ti, dEq_li, D.isN, atI_0, atI_1, atI_2, atI_3, atI_4, atI_5, atI_map, map_int_inj, map_str_inj,
  fLen_t, fLen_l, fLen_s, fInt_i, fInt_b, fTup_l, fTup_t, fList_l, fList_t, fMax2_i, fMin2_i, fAbs_i, isi_int_int, isi_int_bool, isi_int_str, isi_int_tup, isi_int_lst, isi_bl_int, isi_bl_bool, isi_bl_str, isi_bl_tup, isi_str_int, isi_str_bool, isi_str_str, isi_str_tup, isi_tup_int, isi_tup_bool, isi_tup_str, isi_tup_tup, isi_lst_int, isi_lst_bool, isi_lst_str, isi_lst_tup, isi_lst_lst, isi_non_int, isi_non_bool, isi_non_str, isi_non_tup, items_t, items_l,
  List.getElem?_cons_zero, List.getElem?_cons_succ, List.set_cons_zero, List.set_cons_succ, List.map_cons, List.map_nil, List.length_cons, List.length_nil, List.cons_append, List.nil_append, List.append_nil, List.replicate_succ, List.replicate_zero, Nat.reduceAdd, Nat.reduceSub, List.head?_cons, List.tail_cons, List.take_succ_cons, List.take_zero, List.take_nil,
  Option.some.injEq, Option.map_some, Option.map_none, exists_eq_left', exists_eq_left, Rv.d.injEq, Rv.o.injEq, D.int.injEq, D.bl.injEq, D.str.injEq, D.tup.injEq, D.lst.injEq, MO.lst.injEq, List.cons.injEq, and_true, true_and, and_assoc, exists_and_left, decide_eq_true_eq, if_true, Bool.true_eq_false, Bool.false_eq_true, if_false, reduceIte, Bool.not_true, Bool.not_false, eq_self, exists_const, List.filterMap_cons_some, List.filterMap_nil, List.filterMap_cons, and_self, CMul_iff, or_true, true_or, Int.reduceLT, Int.reduceLE, Int.reduceToNat, Int.reduceNeg, Int.reduceSub, Int.reduceAdd, Int.reducePow, Nat.reducePow, Int.reduceMul, ixN_def, Int.cast_ofNat_Int, Int.reduceEq, decide_true, decide_false, dMul_i, dPow_i, strD, reduceCtorEq, ite_true, ite_false, Nat.reduceLT, Nat.reduceLeDiff, Int.reduceAbs, false_and, and_false, or_false, false_or, exists_false, c__law_same]
    exact ⟨same_b _, h _ ht2⟩
end Lk00
set_option Elab.async false
set_option linter.all false
set_option maxRecDepth 100000
set_option maxHeartbeats 4000000
namespace Lk00
open PySem PySem.Spec PyProof.Rows L2 Dw
def c__law_rows : Ct := fun rs M R => ∃ (n : Nat) (tr : MO) (m : Nat), rs = [.o 0, .d (.int m)] ∧ M = [tr] ∧ TrayOk n tr ∧ n + 404 ≤ 1000000 ∧ m ≤ 60 ∧ ∀ tr', TrayOk (n + 404) tr' → R (.d (.bl true)) [tr']
theorem ln__law_rows : ∀ rs M R, c__law_rows rs M R → rs.length = 2 ∧ M.length = 1 := by
  rintro rs M R ⟨n, tr, m, rfl, rfl, _⟩; exact ⟨rfl, rfl⟩
set_option maxHeartbeats 8000000 in
theorem ok__law_rows {P : Program} {w : World} {K : PySem.W.Frag} {mg : Str → Option Value} {base : Heap} (T : Tx K mg) : FnOk P w K mg base CX0 4 T.a__law_rows T.fd__law_rows ["tray", "most"] (spD K c__law_rows) := by
  refine fnD (n0 := 1) T.F__law_rows sc__law_rows ln__law_rows fun cdv A outer s H E hr => ⟨_, (qss_cons (qs_par3 (i := 2) (j := 3) (l := 4) rfl sc__law_rows.nd rfl rfl rfl (by decide) (by decide) (by decide) rfl rfl rfl (qa_cons (qe_callO 0 (ok__law_row T) (hr.mono (by decide)) (by rfl) T.g__law_row T.F__law_row.kp (b__law_row T) (qa_cons (qv 0) (qa_cons (qv 1) qa_nil))) (qa_cons (qe_callO 0 (ok__law_row T) (hr.mono (by decide)) (by rfl) T.g__law_row T.F__law_row.kp (b__law_row T) (qa_cons (qv 0) (qa_cons (qv 1) qa_nil))) (qa_cons (qe_callO 0 (ok__law_thing T) (hr.mono (by decide)) (by rfl) T.g__law_thing T.F__law_thing.kp (b__law_thing T) (qa_cons (qv 0) qa_nil)) qa_nil))) (by rfl)) (qss_cons (qs_set (i := 5) sc__law_rows.nd rfl (.inl rfl) (qe_list (by rfl) T.n_list (qa_cons (qv 2) qa_nil))) (qss_cons (qs_for PassesOwn.never rfl (qi_tup (qv 3)) (qg_name (i := 6) sc__law_rows.nd rfl (by first | exact .inl rfl | exact .inr rfl)) (qss_one (qs_set (i := 5) sc__law_rows.nd rfl (.inl rfl) (qe_call (ok__law_put T) (hr.mono (by decide)) (by rfl) T.g__law_put T.F__law_put.kp (b__law_put T) (qa_cons (qv 5) (qa_cons (qv 6) qa_nil)))))) (qss_cons (qs_set (i := 7) sc__law_rows.nd rfl (.inl rfl) (qe_tup (qa_cons (qe_call (ok_put_in T) (hr.mono (by decide)) (by rfl) T.g_put_in T.F_put_in.kp (b_put_in T) (qa_cons (qv 2) (qa_cons (qv 4) qa_nil))) (qa_cons (qe_callK0 (ok_put_in T) (hr.mono (by decide)) (by rfl) T.g_put_in T.F_put_in.kp (kb_put_in_0_things_one T) (qk_cons (qv 3) (qk_cons (qv 4) qk_nil))) (qa_cons (qe_call (ok_poured T) (hr.mono (by decide)) (by rfl) T.g_poured T.F_poured.kp (b_poured T) (qa_cons (qv 2) (qa_cons (qv 3) qa_nil))) (qa_cons (qe_callK0 (ok_poured T) (hr.mono (by decide)) (by rfl) T.g_poured T.F_poured.kp (kb_poured_0_other_one T) (qk_cons (qv 2) (qk_cons (qv 3) qk_nil))) qa_nil)))))) (qss_cons (qs_set (i := 8) sc__law_rows.nd rfl (.inl rfl) (qe_tup (qa_cons (qe_tuple (by rfl) T.n_tuple (qa_cons (qe_call (ok__law_put T) (hr.mono (by decide)) (by rfl) T.g__law_put T.F__law_put.kp (b__law_put T) (qa_cons (qe_list (by rfl) T.n_list (qa_cons (qv 2) qa_nil)) (qa_cons (qv 4) qa_nil))) qa_nil)) (qa_cons (qe_tuple (by rfl) T.n_tuple (qa_cons (qe_call (ok__law_put T) (hr.mono (by decide)) (by rfl) T.g__law_put T.F__law_put.kp (b__law_put T) (qa_cons (qe_list (by rfl) T.n_list (qa_cons (qv 3) qa_nil)) (qa_cons (qv 4) qa_nil))) qa_nil)) (qa_cons (qe_tuple (by rfl) T.n_tuple (qa_cons (qv 5) qa_nil)) (qa_cons (qe_tuple (by rfl) T.n_tuple (qa_cons (qv 5) qa_nil)) qa_nil)))))) (qss_cons (qs_for PassesOwn.never rfl (qi_range1 (by rfl) T.n_range (qa_cons qe_int qa_nil)) (qg_name (i := 9) sc__law_rows.nd rfl (by first | exact .inl rfl | exact .inr rfl)) (qss_one (qs_if (qt_not (qt_val (qe_call (ok__law_same T) (hr.mono (by decide)) (by rfl) T.g__law_same T.F__law_same.kp (b__law_same T) (qa_cons (qe_ix (qv 7) (qv 9)) (qa_cons (qe_ix (qv 8) (qv 9)) qa_nil))))) (qss_one (qs_ret qe_bl)) qss_nil))) (qss_cons (qs_set (i := 10) sc__law_rows.nd rfl (.inl rfl) (qe_if (qt_gt (qe_len (by rfl) T.n_len (qa_cons (qv 2) qa_nil)) qe_int) (qe_ix (qv 2) qe_int) qe_non)) (qss_cons (qs_if (QW.t (qw_or (qt_not (qt_val (qe_call (ok__law_same T) (hr.mono (by decide)) (by rfl) T.g__law_same T.F__law_same.kp (b__law_same T) (qa_cons (qe_call (ok_least_of T) (hr.mono (by decide)) (by rfl) T.g_least_of T.F_least_of.kp (b_least_of T) (qa_cons (qv 2) qa_nil)) (qa_cons (qv 10) qa_nil))))) (qw_or (qt_not (qt_val (qe_call (ok__law_same T) (hr.mono (by decide)) (by rfl) T.g__law_same T.F__law_same.kp (b__law_same T) (qa_cons (qe_callK0 (ok_least_of T) (hr.mono (by decide)) (by rfl) T.g_least_of T.F_least_of.kp (kb_least_of_0_things T) (qk_cons (qe_tup qa_nil) qk_nil)) (qa_cons qe_non qa_nil))))) (qw_or1 (qt_not (qt_val (qe_call (ok__law_same T) (hr.mono (by decide)) (by rfl) T.g__law_same T.F__law_same.kp (b__law_same T) (qa_cons (qe_call (ok_poured T) (hr.mono (by decide)) (by rfl) T.g_poured T.F_poured.kp (b_poured T) (qa_cons (qe_tup qa_nil) (qa_cons (qe_tup qa_nil) qa_nil))) (qa_cons (qe_tup qa_nil) qa_nil))))))))) (qss_one (qs_ret qe_bl)) qss_nil) (qss_cons (qs_if (QW.t (qw_or (qt_isNot (qe_call (ok_is_rising T) (hr.mono (by decide)) (by rfl) T.g_is_rising T.F_is_rising.kp (b_is_rising T) (qa_cons (qv 2) qa_nil)) qe_bl) (qw_or (qt_isNot (qe_callK0 (ok_is_rising T) (hr.mono (by decide)) (by rfl) T.g_is_rising T.F_is_rising.kp (kb_is_rising_0_things T) (qk_cons (qe_tuple (by rfl) T.n_tuple (qa_cons (qv 5) qa_nil)) qk_nil)) qe_bl) (qw_or1 (qt_isNot (qe_call (ok_is_rising T) (hr.mono (by decide)) (by rfl) T.g_is_rising T.F_is_rising.kp (b_is_rising T) (qa_cons (qe_tup qa_nil) qa_nil)) qe_bl))))) (qss_one (qs_ret qe_bl)) qss_nil) (qss_one (qs_ret (qe_callO 0 (ok__law_fallen T) (hr.mono (by decide)) (by rfl) T.g__law_fallen T.F__law_fallen.kp (b__law_fallen T) (qa_cons (qv 0) (qa_cons (qe_tuple (by rfl) T.n_tuple (qa_cons (qv 5) qa_nil)) qa_nil)))))))))))))), fun rs M R h => ?_⟩
  obtain ⟨n, tr, m, rfl, rfl, ht, hn, hm, h⟩ := h
  simp only [sSeq, sNil, sIf, sSet, sAsg, sPar, sPar3, sRet, sRetN, sExpr, sBreak, sCont, sSetIx, wVar, wC, wOp, wChain, wTb, wAnd, wOr, wNotT, wAndV, wOrV, wNotV, wIf, wNil, wCons, wTup, wLst, wLstO, wSl, wNoPart, wPart, wCB, wNeg, wOrT, wTruth, wJoin, wLc, sFor, wipeE, wKw, wYes, wCall, wCallO, wApp, iL, iT, iR1, iR2, iZ, iS, gN, gsNil, gsCons, gTn, endsOf, retR_d, retR_o, sFrz, frz_d, frz_o0, frz_o1, frz_o10, tru_l, tru_t, tru_b, tru_i, tru_n, List.eraseIdx_cons_zero, List.eraseIdx_cons_succ, exists_eq', exists_eq, shf_d, bck_d, toC_nil, toC_d, toC_o, ds_nil, ds_cons, dats_nil, dats_d, dat_d, dat_o0, dat_o1, dat_o2, startE, kg, cutE, cut1_d, cut1_n, cut1_o0, cut1_o1, zipA,
  dAdd_i, dI0_i, dMod_i, dFdiv_i, dPow_i, dLt_i, dLe_i, dGt_i, dGe_i, dLt_s, dLe_s, dGt_s, dGe_s, dEq_i, dEq_s, dEq_b, dEq_is, dEq_si, dEq_ni, dEq_in, dEq_sn, dEq_ns, dNe_i, dNe_s, dNe_b, dNe_is, dNe_si, dNe_ni, dNe_in, dIs_b, dIs_n, dIsNot_b, dIsNot_n, dIx_l, dIx_t, dSl_l, dSl_t, dEq_ti, dEq_li, D.isN, atI_0, atI_1, atI_2, atI_3, atI_4, atI_5, atI_map, map_int_inj, map_str_inj,
  fLen_t, fLen_l, fLen_s, fInt_i, fInt_b, fTup_l, fTup_t, fList_l, fList_t, fMax2_i, fMin2_i, fAbs_i, isi_int_int, isi_int_bool, isi_int_str, isi_int_tup, isi_int_lst, isi_bl_int, isi_bl_bool, isi_bl_str, isi_bl_tup, isi_str_int, isi_str_bool, isi_str_str, isi_str_tup, isi_tup_int, isi_tup_bool, isi_tup_str, isi_tup_tup, isi_lst_int, isi_lst_bool, isi_lst_str, isi_lst_tup, isi_lst_lst, isi_non_int, isi_non_bool, isi_non_str, isi_non_tup, items_t, items_l,
  List.getElem?_cons_zero, List.getElem?_cons_succ, List.set_cons_zero, List.set_cons_succ, List.map_cons, List.map_nil, List.length_cons, List.length_nil, List.cons_append, List.nil_append, List.append_nil, List.replicate_succ, List.replicate_zero, Nat.reduceAdd, Nat.reduceSub, List.head?_cons, List.tail_cons, List.take_succ_cons, List.take_zero, List.take_nil,
  Option.some.injEq, Option.map_some, Option.map_none, exists_eq_left', exists_eq_left, Rv.d.injEq, Rv.o.injEq, D.int.injEq, D.bl.injEq, D.str.injEq, D.tup.injEq, D.lst.injEq, MO.lst.injEq, List.cons.injEq, and_true, true_and, and_assoc, exists_and_left, decide_eq_true_eq, if_true, Bool.true_eq_false, Bool.false_eq_true, if_false, reduceIte, Bool.not_true, Bool.not_false, eq_self, exists_const, List.filterMap_cons_some, List.filterMap_nil, List.filterMap_cons, and_self, CMul_iff, or_true, true_or, Int.reduceLT, Int.reduceLE, Int.reduceToNat, Int.reduceNeg, Int.reduceSub, Int.reduceAdd, Int.reducePow, Nat.reducePow, Int.reduceMul, ixN_def, Int.cast_ofNat_Int, Int.reduceEq, decide_true, decide_false, dMul_i, dPow_i, strD, reduceCtorEq, ite_true, ite_false, Nat.reduceLT, Nat.reduceLeDiff, Int.reduceAbs, false_and, and_false, or_false, false_or, exists_false]
  refine ⟨n, tr, m, rfl, rfl, ht, by omega, hm, fun one t1 s1 l1 r1 ht1 => ?_⟩
  simp only [sSeq, sNil, sIf, sSet, sAsg, sPar, sPar3, sRet, sRetN, sExpr, sBreak, sCont, sSetIx, wVar, wC, wOp, wChain, wTb, wAnd, wOr, wNotT, wAndV, wOrV, wNotV, wIf, wNil, wCons, wTup, wLst, wLstO, wSl, wNoPart, wPart, wCB, wNeg, wOrT, wTruth, wJoin, wLc, sFor, wipeE, wKw, wYes, wCall, wCallO, wApp, iL, iT, iR1, iR2, iZ, iS, gN, gsNil, gsCons, gTn, endsOf, retR_d, retR_o, sFrz, frz_d, frz_o0, frz_o1, frz_o10, tru_l, tru_t, tru_b, tru_i, tru_n, List.eraseIdx_cons_zero, List.eraseIdx_cons_succ, exists_eq', exists_eq, shf_d, bck_d, toC_nil, toC_d, toC_o, ds_nil, ds_cons, dats_nil, dats_d, dat_d, dat_o0, dat_o1, dat_o2, startE, kg, cutE, cut1_d, cut1_n, cut1_o0, cut1_o1, zipA,
  dAdd_i, dI0_i, dMod_i, dFdiv_i, dPow_i, dLt_i, dLe_i, dGt_i, dGe_i, dLt_s, dLe_s, dGt_s, dGe_s, dEq_i, dEq_s, dEq_b, dEq_is, dEq_si, dEq_ni, dEq_in, dEq_sn, dEq_ns, dNe_i, dNe_s, dNe_b, dNe_is, dNe_si, dNe_ni, dNe_in, dIs_b, dIs_n, dIsNot_b, dIsNot_n, dIx_l, dIx_t, dSl_l, dSl_t, dEq_ti, dEq_li, D.isN, atI_0, atI_1, atI_2, atI_3, atI_4, atI_5, atI_map, map_int_inj, map_str_inj,
  fLen_t, fLen_l, fLen_s, fInt_i, fInt_b, fTup_l, fTup_t, fList_l, fList_t, fMax2_i, fMin2_i, fAbs_i, isi_int_int, isi_int_bool, isi_int_str, isi_int_tup, isi_int_lst, isi_bl_int, isi_bl_bool, isi_bl_str, isi_bl_tup, isi_str_int, isi_str_bool, isi_str_str, isi_str_tup, isi_tup_int, isi_tup_bool, isi_tup_str, isi_tup_tup, isi_lst_int, isi_lst_bool, isi_lst_str, isi_lst_tup, isi_lst_lst, isi_non_int, isi_non_bool, isi_non_str, isi_non_tup, items_t, items_l,
  List.getElem?_cons_zero, List.getElem?_cons_succ, List.set_cons_zero, List.set_cons_succ, List.map_cons, List.map_nil, List.length_cons, List.length_nil, List.cons_append, List.nil_append, List.append_nil, List.replicate_succ, List.replicate_zero, Nat.reduceAdd, Nat.reduceSub, List.head?_cons, List.tail_cons, List.take_succ_cons, List.take_zero, List.take_nil,
  Option.some.injEq, Option.map_some, Option.map_none, exists_eq_left', exists_eq_left, Rv.d.injEq, Rv.o.injEq, D.int.injEq, D.bl.injEq, D.str.injEq, D.tup.injEq, D.lst.injEq, MO.lst.injEq, List.cons.injEq, and_true, true_and, and_assoc, exists_and_left, decide_eq_true_eq, if_true, Bool.true_eq_false, Bool.false_eq_true, if_false, reduceIte, Bool.not_true, Bool.not_false, eq_self, exists_const, List.filterMap_cons_some, List.filterMap_nil, List.filterMap_cons, and_self, CMul_iff, or_true, true_or, Int.reduceLT, Int.reduceLE, Int.reduceToNat, Int.reduceNeg, Int.reduceSub, Int.reduceAdd, Int.reducePow, Nat.reducePow, Int.reduceMul, ixN_def, Int.cast_ofNat_Int, Int.reduceEq, decide_true, decide_false, dMul_i, dPow_i, strD, reduceCtorEq, ite_true, ite_false, Nat.reduceLT, Nat.reduceLeDiff, Int.reduceAbs, false_and, and_false, or_false, false_or, exists_false]
  refine ⟨n + 200, t1, m, rfl, rfl, ht1, by omega, hm, fun other t2 s2 l2 r2 ht2 => ?_⟩
  simp only [sSeq, sNil, sIf, sSet, sAsg, sPar, sPar3, sRet, sRetN, sExpr, sBreak, sCont, sSetIx, wVar, wC, wOp, wChain, wTb, wAnd, wOr, wNotT, wAndV, wOrV, wNotV, wIf, wNil, wCons, wTup, wLst, wLstO, wSl, wNoPart, wPart, wCB, wNeg, wOrT, wTruth, wJoin, wLc, sFor, wipeE, wKw, wYes, wCall, wCallO, wApp, iL, iT, iR1, iR2, iZ, iS, gN, gsNil, gsCons, gTn, endsOf, retR_d, retR_o, sFrz, frz_d, frz_o0, frz_o1, frz_o10, tru_l, tru_t, tru_b, tru_i, tru_n, List.eraseIdx_cons_zero, List.eraseIdx_cons_succ, exists_eq', exists_eq, shf_d, bck_d, toC_nil, toC_d, toC_o, ds_nil, ds_cons, dats_nil, dats_d, dat_d, dat_o0, dat_o1, dat_o2, startE, kg, cutE, cut1_d, cut1_n, cut1_o0, cut1_o1, zipA,
  dAdd_i, dI0_i, dMod_i, dFdiv_i, dPow_i, dLt_i, dLe_i, dGt_i, dGe_i, dLt_s, dLe_s, dGt_s, dGe_s, dEq_i, dEq_s, dEq_b, dEq_is, dEq_si, dEq_ni, dEq_in, dEq_sn, dEq_ns, dNe_i, dNe_s, dNe_b, dNe_is, dNe_si, dNe_ni, dNe_in, dIs_b, dIs_n, dIsNot_b, dIsNot_n, dIx_l, dIx_t, dSl_l, dSl_t, dEq_ti, dEq_li, D.isN, atI_0, atI_1, atI_2, atI_3, atI_4, atI_5, atI_map, map_int_inj, map_str_inj,
  fLen_t, fLen_l, fLen_s, fInt_i, fInt_b, fTup_l, fTup_t, fList_l, fList_t, fMax2_i, fMin2_i, fAbs_i, isi_int_int, isi_int_bool, isi_int_str, isi_int_tup, isi_int_lst, isi_bl_int, isi_bl_bool, isi_bl_str, isi_bl_tup, isi_str_int, isi_str_bool, isi_str_str, isi_str_tup, isi_tup_int, isi_tup_bool, isi_tup_str, isi_tup_tup, isi_lst_int, isi_lst_bool, isi_lst_str, isi_lst_tup, isi_lst_lst, isi_non_int, isi_non_bool, isi_non_str, isi_non_tup, items_t, items_l,
  List.getElem?_cons_zero, List.getElem?_cons_succ, List.set_cons_zero, List.set_cons_succ, List.map_cons, List.map_nil, List.length_cons, List.length_nil, List.cons_append, List.nil_append, List.append_nil, List.replicate_succ, List.replicate_zero, Nat.reduceAdd, Nat.reduceSub, List.head?_cons, List.tail_cons, List.take_succ_cons, List.take_zero, List.take_nil,
  Option.some.injEq, Option.map_some, Option.map_none, exists_eq_left', exists_eq_left, Rv.d.injEq, Rv.o.injEq, D.int.injEq, D.bl.injEq, D.str.injEq, D.tup.injEq, D.lst.injEq, MO.lst.injEq, List.cons.injEq, and_true, true_and, and_assoc, exists_and_left, decide_eq_true_eq, if_true, Bool.true_eq_false, Bool.false_eq_true, if_false, reduceIte, Bool.not_true, Bool.not_false, eq_self, exists_const, List.filterMap_cons_some, List.filterMap_nil, List.filterMap_cons, and_self, CMul_iff, or_true, true_or, Int.reduceLT, Int.reduceLE, Int.reduceToNat, Int.reduceNeg, Int.reduceSub, Int.reduceAdd, Int.reducePow, Nat.reducePow, Int.reduceMul, ixN_def, Int.cast_ofNat_Int, Int.reduceEq, decide_true, decide_false, dMul_i, dPow_i, strD, reduceCtorEq, ite_true, ite_false, Nat.reduceLT, Nat.reduceLeDiff, Int.reduceAbs, false_and, and_false, or_false, false_or, exists_false]
  refine ⟨n + 400, t2, rfl, rfl, ht2, by omega, fun more t3 r3 ht3 => ?_⟩
  simp only [sSeq, sNil, sIf, sSet, sAsg, sPar, sPar3, sRet, sRetN, sExpr, sBreak, sCont, sSetIx, wVar, wC, wOp, wChain, wTb, wAnd, wOr, wNotT, wAndV, wOrV, wNotV, wIf, wNil, wCons, wTup, wLst, wLstO, wSl, wNoPart, wPart, wCB, wNeg, wOrT, wTruth, wJoin, wLc, sFor, wipeE, wKw, wYes, wCall, wCallO, wApp, iL, iT, iR1, iR2, iZ, iS, gN, gsNil, gsCons, gTn, endsOf, retR_d, retR_o, sFrz, frz_d, frz_o0, frz_o1, frz_o10, tru_l, tru_t, tru_b, tru_i, tru_n, List.eraseIdx_cons_zero, List.eraseIdx_cons_succ, exists_eq', exists_eq, shf_d, bck_d, toC_nil, toC_d, toC_o, ds_nil, ds_cons, dats_nil, dats_d, dat_d, dat_o0, dat_o1, dat_o2, startE, kg, cutE, cut1_d, cut1_n, cut1_o0, cut1_o1, zipA,
  dAdd_i, dI0_i, dMod_i, dFdiv_i, dPow_i, dLt_i, dLe_i, dGt_i, dGe_i, dLt_s, dLe_s, dGt_s, dGe_s, dEq_i, dEq_s, dEq_b, dEq_is, dEq_si, dEq_ni, dEq_in, dEq_sn, dEq_ns, dNe_i, dNe_s, dNe_b, dNe_is, dNe_si, dNe_ni, dNe_in, dIs_b, dIs_n, dIsNot_b, dIsNot_n, dIx_l, dIx_t, dSl_l, dSl_t, dEq_ti, dEq_li, D.isN, atI_0, atI_1, atI_2, atI_3, atI_4, atI_5, atI_map, map_int_inj, map_str_inj,
  fLen_t, fLen_l, fLen_s, fInt_i, fInt_b, fTup_l, fTup_t, fList_l, fList_t, fMax2_i, fMin2_i, fAbs_i, isi_int_int, isi_int_bool, isi_int_str, isi_int_tup, isi_int_lst, isi_bl_int, isi_bl_bool, isi_bl_str, isi_bl_tup, isi_str_int, isi_str_bool, isi_str_str, isi_str_tup, isi_tup_int, isi_tup_bool, isi_tup_str, isi_tup_tup, isi_lst_int, isi_lst_bool, isi_lst_str, isi_lst_tup, isi_lst_lst, isi_non_int, isi_non_bool, isi_non_str, isi_non_tup, items_t, items_l,
  List.getElem?_cons_zero, List.getElem?_cons_succ, List.set_cons_zero, List.set_cons_succ, List.map_cons, List.map_nil, List.length_cons, List.length_nil, List.cons_append, List.nil_append, List.append_nil, List.replicate_succ, List.replicate_zero, Nat.reduceAdd, Nat.reduceSub, List.head?_cons, List.tail_cons, List.take_succ_cons, List.take_zero, List.take_nil,
  Option.some.injEq, Option.map_some, Option.map_none, exists_eq_left', exists_eq_left, Rv.d.injEq, Rv.o.injEq, D.int.injEq, D.bl.injEq, D.str.injEq, D.tup.injEq, D.lst.injEq, MO.lst.injEq, List.cons.injEq, and_true, true_and, and_assoc, exists_and_left, decide_eq_true_eq, if_true, Bool.true_eq_false, Bool.false_eq_true, if_false, reduceIte, Bool.not_true, Bool.not_false, eq_self, exists_const, List.filterMap_cons_some, List.filterMap_nil, List.filterMap_cons, and_self, CMul_iff, or_true, true_or, Int.reduceLT, Int.reduceLE, Int.reduceToNat, Int.reduceNeg, Int.reduceSub, Int.reduceAdd, Int.reducePow, Nat.reducePow, Int.reduceMul, ixN_def, Int.cast_ofNat_Int, Int.reduceEq, decide_true, decide_false, dMul_i, dPow_i, strD, reduceCtorEq, ite_true, ite_false, Nat.reduceLT, Nat.reduceLeDiff, Int.reduceAbs, false_and, and_false, or_false, false_or, exists_false]
  refine for_0 (fun i env M => ∃ (bs : List Int) (e6 : Option Rv), env = [some (.o 0), some (.d (.int m)), some (.d (.tup (one.map .int))), some (.d (.tup (other.map .int))), some (.d (.int more)), some (.d (.lst (bs.map .int))), e6, none, none, none, none] ∧ M = [t3] ∧ Srt bs ∧ bs.Perm (one ++ other.take i))
    ⟨one, _, rfl, rfl, s1, by simp⟩ (fun i d env M hd hI => ?_) (fun env M hI => ?_)
  · obtain ⟨bs, e6, rfl, rfl, g1, g2⟩ := hI
    rw [List.getElem?_map] at hd
    cases hx : other[i]? with
    | none => rw [hx] at hd; cases hd
    | some x =>
      rw [hx] at hd
      cases hd
      have hbl : bs.length ≤ 120 := by
        rw [g2.length_eq, List.length_append, List.length_take]; omega
      simp only [sSeq, sNil, sIf, sSet, sAsg, sPar, sPar3, sRet, sRetN, sExpr, sBreak, sCont, sSetIx, wVar, wC, wOp, wChain, wTb, wAnd, wOr, wNotT, wAndV, wOrV, wNotV, wIf, wNil, wCons, wTup, wLst, wLstO, wSl, wNoPart, wPart, wCB, wNeg, wOrT, wTruth, wJoin, wLc, sFor, wipeE, wKw, wYes, wCall, wCallO, wApp, iL, iT, iR1, iR2, iZ, iS, gN, gsNil, gsCons, gTn, endsOf, retR_d, retR_o, sFrz, frz_d, frz_o0, frz_o1, frz_o10, tru_l, tru_t, tru_b, tru_i, tru_n, List.eraseIdx_cons_zero, List.eraseIdx_cons_succ, exists_eq', exists_eq, shf_d, bck_d, toC_nil, toC_d, toC_o, ds_nil, ds_cons, dats_nil, dats_d, dat_d, dat_o0, dat_o1, dat_o2, startE, kg, cutE, cut1_d, cut1_n, cut1_o0, cut1_o1, zipA,
  dAdd_i, dI0_i, dMod_i, dFdiv_i, dPow_i, dLt_i, dLe_i, dGt_i, dGe_i, dLt_s, dLe_s, dGt_s, dGe_s, dEq_i, dEq_s, dEq_b, dEq_is, dEq_si, dEq_ni, dEq_in, dEq_sn, dEq_ns, dNe_i, dNe_s, dNe_b, dNe_is, dNe_si, dNe_ni, dNe_in, dIs_b, dIs_n, dIsNot_b, dIsNot_n, dIx_l, dIx_t, dSl_l, dSl_t, dEq_ti, dEq_li, D.isN, atI_0, atI_1, atI_2, atI_3, atI_4, atI_5, atI_map, map_int_inj, map_str_inj,
  fLen_t, fLen_l, fLen_s, fInt_i, fInt_b, fTup_l, fTup_t, fList_l, fList_t, fMax2_i, fMin2_i, fAbs_i, isi_int_int, isi_int_bool, isi_int_str, isi_int_tup, isi_int_lst, isi_bl_int, isi_bl_bool, isi_bl_str, isi_bl_tup, isi_str_int, isi_str_bool, isi_str_str, isi_str_tup, isi_tup_int, isi_tup_bool, isi_tup_str, isi_tup_tup, isi_lst_int, isi_lst_bool, isi_lst_str, isi_lst_tup, isi_lst_lst, isi_non_int, isi_non_bool, isi_non_str, isi_non_tup, items_t, items_l,
  List.getElem?_cons_zero, List.getElem?_cons_succ, List.set_cons_zero, List.set_cons_succ, List.map_cons, List.map_nil, List.length_cons, List.length_nil, List.cons_append, List.nil_append, List.append_nil, List.replicate_succ, List.replicate_zero, Nat.reduceAdd, Nat.reduceSub, List.head?_cons, List.tail_cons, List.take_succ_cons, List.take_zero, List.take_nil,
  Option.some.injEq, Option.map_some, Option.map_none, exists_eq_left', exists_eq_left, Rv.d.injEq, Rv.o.injEq, D.int.injEq, D.bl.injEq, D.str.injEq, D.tup.injEq, D.lst.injEq, MO.lst.injEq, List.cons.injEq, and_true, true_and, and_assoc, exists_and_left, decide_eq_true_eq, if_true, Bool.true_eq_false, Bool.false_eq_true, if_false, reduceIte, Bool.not_true, Bool.not_false, eq_self, exists_const, List.filterMap_cons_some, List.filterMap_nil, List.filterMap_cons, and_self, CMul_iff, or_true, true_or, Int.reduceLT, Int.reduceLE, Int.reduceToNat, Int.reduceNeg, Int.reduceSub, Int.reduceAdd, Int.reducePow, Nat.reducePow, Int.reduceMul, ixN_def, Int.cast_ofNat_Int, Int.reduceEq, decide_true, decide_false, dMul_i, dPow_i, strD, reduceCtorEq, ite_true, ite_false, Nat.reduceLT, Nat.reduceLeDiff, Int.reduceAbs, false_and, and_false, or_false, false_or, exists_false]
      refine ⟨bs, x, rfl, rfl, by omega, ?_⟩
      simp only [sSeq, sNil, sIf, sSet, sAsg, sPar, sPar3, sRet, sRetN, sExpr, sBreak, sCont, sSetIx, wVar, wC, wOp, wChain, wTb, wAnd, wOr, wNotT, wAndV, wOrV, wNotV, wIf, wNil, wCons, wTup, wLst, wLstO, wSl, wNoPart, wPart, wCB, wNeg, wOrT, wTruth, wJoin, wLc, sFor, wipeE, wKw, wYes, wCall, wCallO, wApp, iL, iT, iR1, iR2, iZ, iS, gN, gsNil, gsCons, gTn, endsOf, retR_d, retR_o, sFrz, frz_d, frz_o0, frz_o1, frz_o10, tru_l, tru_t, tru_b, tru_i, tru_n, List.eraseIdx_cons_zero, List.eraseIdx_cons_succ, exists_eq', exists_eq, shf_d, bck_d, toC_nil, toC_d, toC_o, ds_nil, ds_cons, dats_nil, dats_d, dat_d, dat_o0, dat_o1, dat_o2, startE, kg, cutE, cut1_d, cut1_n, cut1_o0, cut1_o1, zipA,
  dAdd_i, dI0_i, dMod_i, dFdiv_i, dPow_i, dLt_i, dLe_i, dGt_i, dGe_i, dLt_s, dLe_s, dGt_s, dGe_s, dEq_i, dEq_s, dEq_b, dEq_is, dEq_si, dEq_ni, dEq_in, dEq_sn, dEq_ns, dNe_i, dNe_s, dNe_b, dNe_is, dNe_si, dNe_ni, dNe_in, dIs_b, dIs_n, dIsNot_b, dIsNot_n, dIx_l, dIx_t, dSl_l, dSl_t, dEq_ti, dEq_li, D.isN, atI_0, atI_1, atI_2, atI_3, atI_4, atI_5, atI_map, map_int_inj, map_str_inj,
  fLen_t, fLen_l, fLen_s, fInt_i, fInt_b, fTup_l, fTup_t, fList_l, fList_t, fMax2_i, fMin2_i, fAbs_i, isi_int_int, isi_int_bool, isi_int_str, isi_int_tup, isi_int_lst, isi_bl_int, isi_bl_bool, isi_bl_str, isi_bl_tup, isi_str_int, isi_str_bool, isi_str_str, isi_str_tup, isi_tup_int, isi_tup_bool, isi_tup_str, isi_tup_tup, isi_lst_int, isi_lst_bool, isi_lst_str, isi_lst_tup, isi_lst_lst, isi_non_int, isi_non_bool, isi_non_str, isi_non_tup, items_t, items_l,
  List.getElem?_cons_zero, List.getElem?_cons_succ, List.set_cons_zero, List.set_cons_succ, List.map_cons, List.map_nil, List.length_cons, List.length_nil, List.cons_append, List.nil_append, List.append_nil, List.replicate_succ, List.replicate_zero, Nat.reduceAdd, Nat.reduceSub, List.head?_cons, List.tail_cons, List.take_succ_cons, List.take_zero, List.take_nil,
  Option.some.injEq, Option.map_some, Option.map_none, exists_eq_left', exists_eq_left, Rv.d.injEq, Rv.o.injEq, D.int.injEq, D.bl.injEq, D.str.injEq, D.tup.injEq, D.lst.injEq, MO.lst.injEq, List.cons.injEq, and_true, true_and, and_assoc, exists_and_left, decide_eq_true_eq, if_true, Bool.true_eq_false, Bool.false_eq_true, if_false, reduceIte, Bool.not_true, Bool.not_false, eq_self, exists_const, List.filterMap_cons_some, List.filterMap_nil, List.filterMap_cons, and_self, CMul_iff, or_true, true_or, Int.reduceLT, Int.reduceLE, Int.reduceToNat, Int.reduceNeg, Int.reduceSub, Int.reduceAdd, Int.reducePow, Nat.reducePow, Int.reduceMul, ixN_def, Int.cast_ofNat_Int, Int.reduceEq, decide_true, decide_false, dMul_i, dPow_i, strD, reduceCtorEq, ite_true, ite_false, Nat.reduceLT, Nat.reduceLeDiff, Int.reduceAbs, false_and, and_false, or_false, false_or, exists_false]
      rw [lput_eq bs x g1]
      refine ⟨putIn_srt _ _ g1, (putIn_perm _ _).trans ?_⟩
      rw [List.take_add_one, hx, ← List.append_assoc]
      exact ((List.perm_append_comm (l₁ := [x]) (l₂ := bs))).trans (g2.append_right _)
  · obtain ⟨bs, e6, rfl, rfl, g1, g2⟩ := hI
    rw [List.length_map, List.take_length] at g2
    have hbl : bs.length ≤ 120 := by
      rw [g2.length_eq, List.length_append]; omega
    have b1 : sortI (one ++ other) = bs := srt_uniq (sortI_srt _) g1 ((sortI_perm _).trans g2.symm)
    have b2 : sortI (other ++ one) = bs := srt_uniq (sortI_srt _) g1 ((sortI_perm _).trans (List.perm_append_comm.trans g2.symm))
    simp only [sSeq, sNil, sIf, sSet, sAsg, sPar, sPar3, sRet, sRetN, sExpr, sBreak, sCont, sSetIx, wVar, wC, wOp, wChain, wTb, wAnd, wOr, wNotT, wAndV, wOrV, wNotV, wIf, wNil, wCons, wTup, wLst, wLstO, wSl, wNoPart, wPart, wCB, wNeg, wOrT, wTruth, wJoin, wLc, sFor, wipeE, wKw, wYes, wCall, wCallO, wApp, iL, iT, iR1, iR2, iZ, iS, gN, gsNil, gsCons, gTn, endsOf, retR_d, retR_o, sFrz, frz_d, frz_o0, frz_o1, frz_o10, tru_l, tru_t, tru_b, tru_i, tru_n, List.eraseIdx_cons_zero, List.eraseIdx_cons_succ, exists_eq', exists_eq, shf_d, bck_d, toC_nil, toC_d, toC_o, ds_nil, ds_cons, dats_nil, dats_d, dat_d, dat_o0, dat_o1, dat_o2, startE, kg, cutE, cut1_d, cut1_n, cut1_o0, cut1_o1, zipA,
  dAdd_i, dI0_i, dMod_i, dFdiv_i, dPow_i, dLt_i, dLe_i, dGt_i, dGe_i, dLt_s, dLe_s, dGt_s, dGe_s, dEq_i, dEq_s, dEq_b, dEq_is, dEq_si, dEq_ni, dEq_in, dEq_sn, dEq_ns, dNe_i, dNe_s, dNe_b, dNe_is, dNe_si, dNe_ni, dNe_in, dIs_b, dIs_n, dIsNot_b, dIsNot_n, dIx_l, dIx_t, dSl_l, dSl_t, dEq_ti, dEq_li, D.isN, atI_0, atI_1, atI_2, atI_3, atI_4, atI_5, atI_map, map_int_inj, map_str_inj,
  fLen_t, fLen_l, fLen_s, fInt_i, fInt_b, fTup_l, fTup_t, fList_l, fList_t, fMax2_i, fMin2_i, fAbs_i, isi_int_int, isi_int_bool, isi_int_str, isi_int_tup, isi_int_lst, isi_bl_int, isi_bl_bool, isi_bl_str, isi_bl_tup, isi_str_int, isi_str_bool, isi_str_str, isi_str_tup, isi_tup_int, isi_tup_bool, isi_tup_str, isi_tup_tup, isi_lst_int, isi_lst_bool, isi_lst_str, isi_lst_tup, isi_lst_lst, isi_non_int, isi_non_bool, isi_non_str, isi_non_tup, items_t, items_l,
  List.getElem?_cons_zero, List.getElem?_cons_succ, List.set_cons_zero, List.set_cons_succ, List.map_cons, List.map_nil, List.length_cons, List.length_nil, List.cons_append, List.nil_append, List.append_nil, List.replicate_succ, List.replicate_zero, Nat.reduceAdd, Nat.reduceSub, List.head?_cons, List.tail_cons, List.take_succ_cons, List.take_zero, List.take_nil,
  Option.some.injEq, Option.map_some, Option.map_none, exists_eq_left', exists_eq_left, Rv.d.injEq, Rv.o.injEq, D.int.injEq, D.bl.injEq, D.str.injEq, D.tup.injEq, D.lst.injEq, MO.lst.injEq, List.cons.injEq, and_true, true_and, and_assoc, exists_and_left, decide_eq_true_eq, if_true, Bool.true_eq_false, Bool.false_eq_true, if_false, reduceIte, Bool.not_true, Bool.not_false, eq_self, exists_const, List.filterMap_cons_some, List.filterMap_nil, List.filterMap_cons, and_self, CMul_iff, or_true, true_or, Int.reduceLT, Int.reduceLE, Int.reduceToNat, Int.reduceNeg, Int.reduceSub, Int.reduceAdd, Int.reducePow, Nat.reducePow, Int.reduceMul, ixN_def, Int.cast_ofNat_Int, Int.reduceEq, decide_true, decide_false, dMul_i, dPow_i, strD, reduceCtorEq, ite_true, ite_false, Nat.reduceLT, Nat.reduceLeDiff, Int.reduceAbs, false_and, and_false, or_false, false_or, exists_false]
    refine ⟨one, more, rfl, rfl, by omega, ?_⟩
    simp only [sSeq, sNil, sIf, sSet, sAsg, sPar, sPar3, sRet, sRetN, sExpr, sBreak, sCont, sSetIx, wVar, wC, wOp, wChain, wTb, wAnd, wOr, wNotT, wAndV, wOrV, wNotV, wIf, wNil, wCons, wTup, wLst, wLstO, wSl, wNoPart, wPart, wCB, wNeg, wOrT, wTruth, wJoin, wLc, sFor, wipeE, wKw, wYes, wCall, wCallO, wApp, iL, iT, iR1, iR2, iZ, iS, gN, gsNil, gsCons, gTn, endsOf, retR_d, retR_o, sFrz, frz_d, frz_o0, frz_o1, frz_o10, tru_l, tru_t, tru_b, tru_i, tru_n, List.eraseIdx_cons_zero, List.eraseIdx_cons_succ, exists_eq', exists_eq, shf_d, bck_d, toC_nil, toC_d, toC_o, ds_nil, ds_cons, dats_nil, dats_d, dat_d, dat_o0, dat_o1, dat_o2, startE, kg, cutE, cut1_d, cut1_n, cut1_o0, cut1_o1, zipA,
  dAdd_i, dI0_i, dMod_i, dFdiv_i, dPow_i, dLt_i, dLe_i, dGt_i, dGe_i, dLt_s, dLe_s, dGt_s, dGe_s, dEq_i, dEq_s, dEq_b, dEq_is, dEq_si, dEq_ni, dEq_in, dEq_sn, dEq_ns, dNe_i, dNe_s, dNe_b, dNe_is, dNe_si, dNe_ni, dNe_in, dIs_b, dIs_n, dIsNot_b, dIsNot_n, dIx_l, dIx_t, dSl_l, dSl_t, dEq_ti, dEq_li, D.isN, atI_0, atI_1, atI_2, atI_3, atI_4, atI_5, atI_map, map_int_inj, map_str_inj,
  fLen_t, fLen_l, fLen_s, fInt_i, fInt_b, fTup_l, fTup_t, fList_l, fList_t, fMax2_i, fMin2_i, fAbs_i, isi_int_int, isi_int_bool, isi_int_str, isi_int_tup, isi_int_lst, isi_bl_int, isi_bl_bool, isi_bl_str, isi_bl_tup, isi_str_int, isi_str_bool, isi_str_str, isi_str_tup, isi_tup_int, isi_tup_bool, isi_tup_str, isi_tup_tup, isi_lst_int, isi_lst_bool, isi_lst_str, isi_lst_tup, isi_lst_lst, isi_non_int, isi_non_bool, isi_non_str, isi_non_tup, items_t, items_l,
  List.getElem?_cons_zero, List.getElem?_cons_succ, List.set_cons_zero, List.set_cons_succ, List.map_cons, List.map_nil, List.length_cons, List.length_nil, List.cons_append, List.nil_append, List.append_nil, List.replicate_succ, List.replicate_zero, Nat.reduceAdd, Nat.reduceSub, List.head?_cons, List.tail_cons, List.take_succ_cons, List.take_zero, List.take_nil,
  Option.some.injEq, Option.map_some, Option.map_none, exists_eq_left', exists_eq_left, Rv.d.injEq, Rv.o.injEq, D.int.injEq, D.bl.injEq, D.str.injEq, D.tup.injEq, D.lst.injEq, MO.lst.injEq, List.cons.injEq, and_true, true_and, and_assoc, exists_and_left, decide_eq_true_eq, if_true, Bool.true_eq_false, Bool.false_eq_true, if_false, reduceIte, Bool.not_true, Bool.not_false, eq_self, exists_const, List.filterMap_cons_some, List.filterMap_nil, List.filterMap_cons, and_self, CMul_iff, or_true, true_or, Int.reduceLT, Int.reduceLE, Int.reduceToNat, Int.reduceNeg, Int.reduceSub, Int.reduceAdd, Int.reducePow, Nat.reducePow, Int.reduceMul, ixN_def, Int.cast_ofNat_Int, Int.reduceEq, decide_true, decide_false, dMul_i, dPow_i, strD, reduceCtorEq, ite_true, ite_false, Nat.reduceLT, Nat.reduceLeDiff, Int.reduceAbs, false_and, and_false, or_false, false_or, exists_false]
    refine ⟨other, more, rfl, rfl, by omega, ?_⟩
    simp only [sSeq, sNil, sIf, sSet, sAsg, sPar, sPar3, sRet, sRetN, sExpr, sBreak, sCont, sSetIx, wVar, wC, wOp, wChain, wTb, wAnd, wOr, wNotT, wAndV, wOrV, wNotV, wIf, wNil, wCons, wTup, wLst, wLstO, wSl, wNoPart, wPart, wCB, wNeg, wOrT, wTruth, wJoin, wLc, sFor, wipeE, wKw, wYes, wCall, wCallO, wApp, iL, iT, iR1, iR2, iZ, iS, gN, gsNil, gsCons, gTn, endsOf, retR_d, retR_o, sFrz, frz_d, frz_o0, frz_o1, frz_o10, tru_l, tru_t, tru_b, tru_i, tru_n, List.eraseIdx_cons_zero, List.eraseIdx_cons_succ, exists_eq', exists_eq, shf_d, bck_d, toC_nil, toC_d, toC_o, ds_nil, ds_cons, dats_nil, dats_d, dat_d, dat_o0, dat_o1, dat_o2, startE, kg, cutE, cut1_d, cut1_n, cut1_o0, cut1_o1, zipA,
  dAdd_i, dI0_i, dMod_i, dFdiv_i, dPow_i, dLt_i, dLe_i, dGt_i, dGe_i, dLt_s, dLe_s, dGt_s, dGe_s, dEq_i, dEq_s, dEq_b, dEq_is, dEq_si, dEq_ni, dEq_in, dEq_sn, dEq_ns, dNe_i, dNe_s, dNe_b, dNe_is, dNe_si, dNe_ni, dNe_in, dIs_b, dIs_n, dIsNot_b, dIsNot_n, dIx_l, dIx_t, dSl_l, dSl_t, dEq_ti, dEq_li, D.isN, atI_0, atI_1, atI_2, atI_3, atI_4, atI_5, atI_map, map_int_inj, map_str_inj,
  fLen_t, fLen_l, fLen_s, fInt_i, fInt_b, fTup_l, fTup_t, fList_l, fList_t, fMax2_i, fMin2_i, fAbs_i, isi_int_int, isi_int_bool, isi_int_str, isi_int_tup, isi_int_lst, isi_bl_int, isi_bl_bool, isi_bl_str, isi_bl_tup, isi_str_int, isi_str_bool, isi_str_str, isi_str_tup, isi_tup_int, isi_tup_bool, isi_tup_str, isi_tup_tup, isi_lst_int, isi_lst_bool, isi_lst_str, isi_lst_tup, isi_lst_lst, isi_non_int, isi_non_bool, isi_non_str, isi_non_tup, items_t, items_l,
  List.getElem?_cons_zero, List.getElem?_cons_succ, List.set_cons_zero, List.set_cons_succ, List.map_cons, List.map_nil, List.length_cons, List.length_nil, List.cons_append, List.nil_append, List.append_nil, List.replicate_succ, List.replicate_zero, Nat.reduceAdd, Nat.reduceSub, List.head?_cons, List.tail_cons, List.take_succ_cons, List.take_zero, List.take_nil,
  Option.some.injEq, Option.map_some, Option.map_none, exists_eq_left', exists_eq_left, Rv.d.injEq, Rv.o.injEq, D.int.injEq, D.bl.injEq, D.str.injEq, D.tup.injEq, D.lst.injEq, MO.lst.injEq, List.cons.injEq, and_true, true_and, and_assoc, exists_and_left, decide_eq_true_eq, if_true, Bool.true_eq_false, Bool.false_eq_true, if_false, reduceIte, Bool.not_true, Bool.not_false, eq_self, exists_const, List.filterMap_cons_some, List.filterMap_nil, List.filterMap_cons, and_self, CMul_iff, or_true, true_or, Int.reduceLT, Int.reduceLE, Int.reduceToNat, Int.reduceNeg, Int.reduceSub, Int.reduceAdd, Int.reducePow, Nat.reducePow, Int.reduceMul, ixN_def, Int.cast_ofNat_Int, Int.reduceEq, decide_true, decide_false, dMul_i, dPow_i, strD, reduceCtorEq, ite_true, ite_false, Nat.reduceLT, Nat.reduceLeDiff, Int.reduceAbs, false_and, and_false, or_false, false_or, exists_false]
    refine ⟨one, other, rfl, rfl, by omega, ?_⟩
    simp only [sSeq, sNil, sIf, sSet, sAsg, sPar, sPar3, sRet, sRetN, sExpr, sBreak, sCont, sSetIx, wVar, wC, wOp, wChain, wTb, wAnd, wOr, wNotT, wAndV, wOrV, wNotV, wIf, wNil, wCons, wTup, wLst, wLstO, wSl, wNoPart, wPart, wCB, wNeg, wOrT, wTruth, wJoin, wLc, sFor, wipeE, wKw, wYes, wCall, wCallO, wApp, iL, iT, iR1, iR2, iZ, iS, gN, gsNil, gsCons, gTn, endsOf, retR_d, retR_o, sFrz, frz_d, frz_o0, frz_o1, frz_o10, tru_l, tru_t, tru_b, tru_i, tru_n, List.eraseIdx_cons_zero, List.eraseIdx_cons_succ, exists_eq', exists_eq, shf_d, bck_d, toC_nil, toC_d, toC_o, ds_nil, ds_cons, dats_nil, dats_d, dat_d, dat_o0, dat_o1, dat_o2, startE, kg, cutE, cut1_d, cut1_n, cut1_o0, cut1_o1, zipA,
  dAdd_i, dI0_i, dMod_i, dFdiv_i, dPow_i, dLt_i, dLe_i, dGt_i, dGe_i, dLt_s, dLe_s, dGt_s, dGe_s, dEq_i, dEq_s, dEq_b, dEq_is, dEq_si, dEq_ni, dEq_in, dEq_sn, dEq_ns, dNe_i, dNe_s, dNe_b, dNe_is, dNe_si, dNe_ni, dNe_in, dIs_b, dIs_n, dIsNot_b, dIsNot_n, dIx_l, dIx_t, dSl_l, dSl_t, dEq_ti, dEq_li, D.isN, atI_0, atI_1, atI_2, atI_3, atI_4, atI_5, atI_map, map_int_inj, map_str_inj,
  fLen_t, fLen_l, fLen_s, fInt_i, fInt_b, fTup_l, fTup_t, fList_l, fList_t, fMax2_i, fMin2_i, fAbs_i, isi_int_int, isi_int_bool, isi_int_str, isi_int_tup, isi_int_lst, isi_bl_int, isi_bl_bool, isi_bl_str, isi_bl_tup, isi_str_int, isi_str_bool, isi_str_str, isi_str_tup, isi_tup_int, isi_tup_bool, isi_tup_str, isi_tup_tup, isi_lst_int, isi_lst_bool, isi_lst_str, isi_lst_tup, isi_lst_lst, isi_non_int, isi_non_bool, isi_non_str, isi_non_tup, items_t, items_l,
  List.getElem?_cons_zero, List.getElem?_cons_succ, List.set_cons_zero, List.set_cons_succ, List.map_cons, List.map_nil, List.length_cons, List.length_nil, List.cons_append, List.nil_append, List.append_nil, List.replicate_succ, List.replicate_zero, Nat.reduceAdd, Nat.reduceSub, List.head?_cons, List.tail_cons, List.take_succ_cons, List.take_zero, List.take_nil,
  Option.some.injEq, Option.map_some, Option.map_none, exists_eq_left', exists_eq_left, Rv.d.injEq, Rv.o.injEq, D.int.injEq, D.bl.injEq, D.str.injEq, D.tup.injEq, D.lst.injEq, MO.lst.injEq, List.cons.injEq, and_true, true_and, and_assoc, exists_and_left, decide_eq_true_eq, if_true, Bool.true_eq_false, Bool.false_eq_true, if_false, reduceIte, Bool.not_true, Bool.not_false, eq_self, exists_const, List.filterMap_cons_some, List.filterMap_nil, List.filterMap_cons, and_self, CMul_iff, or_true, true_or, Int.reduceLT, Int.reduceLE, Int.reduceToNat, Int.reduceNeg, Int.reduceSub, Int.reduceAdd, Int.reducePow, Nat.reducePow, Int.reduceMul, ixN_def, Int.cast_ofNat_Int, Int.reduceEq, decide_true, decide_false, dMul_i, dPow_i, strD, reduceCtorEq, ite_true, ite_false, Nat.reduceLT, Nat.reduceLeDiff, Int.reduceAbs, false_and, and_false, or_false, false_or, exists_false]
    refine ⟨other, one, rfl, rfl, by omega, ?_⟩
    simp only [sSeq, sNil, sIf, sSet, sAsg, sPar, sPar3, sRet, sRetN, sExpr, sBreak, sCont, sSetIx, wVar, wC, wOp, wChain, wTb, wAnd, wOr, wNotT, wAndV, wOrV, wNotV, wIf, wNil, wCons, wTup, wLst, wLstO, wSl, wNoPart, wPart, wCB, wNeg, wOrT, wTruth, wJoin, wLc, sFor, wipeE, wKw, wYes, wCall, wCallO, wApp, iL, iT, iR1, iR2, iZ, iS, gN, gsNil, gsCons, gTn, endsOf, retR_d, retR_o, sFrz, frz_d, frz_o0, frz_o1, frz_o10, tru_l, tru_t, tru_b, tru_i, tru_n, List.eraseIdx_cons_zero, List.eraseIdx_cons_succ, exists_eq', exists_eq, shf_d, bck_d, toC_nil, toC_d, toC_o, ds_nil, ds_cons, dats_nil, dats_d, dat_d, dat_o0, dat_o1, dat_o2, startE, kg, cutE, cut1_d, cut1_n, cut1_o0, cut1_o1, zipA,
  dAdd_i, dI0_i, dMod_i, dFdiv_i, dPow_i, dLt_i, dLe_i, dGt_i, dGe_i, dLt_s, dLe_s, dGt_s, dGe_s, dEq_i, dEq_s, dEq_b, dEq_is, dEq_si, dEq_ni, dEq_in, dEq_sn, dEq_ns, dNe_i, dNe_s, dNe_b, dNe_is, dNe_si, dNe_ni, dNe_in, dIs_b, dIs_n, dIsNot_b, dIsNot_n, dIx_l, dIx_t, dSl_l, dSl_t, dEq_ti, dEq_li, D.isN, atI_0, atI_1, atI_2, atI_3, atI_4, atI_5, atI_map, map_int_inj, map_str_inj,
  fLen_t, fLen_l, fLen_s, fInt_i, fInt_b, fTup_l, fTup_t, fList_l, fList_t, fMax2_i, fMin2_i, fAbs_i, isi_int_int, isi_int_bool, isi_int_str, isi_int_tup, isi_int_lst, isi_bl_int, isi_bl_bool, isi_bl_str, isi_bl_tup, isi_str_int, isi_str_bool, isi_str_str, isi_str_tup, isi_tup_int, isi_tup_bool, isi_tup_str, isi_tup_tup, isi_lst_int, isi_lst_bool, isi_lst_str, isi_lst_tup, isi_lst_lst, isi_non_int, isi_non_bool, isi_non_str, isi_non_tup, items_t, items_l,
  List.getElem?_cons_zero, List.getElem?_cons_succ, List.set_cons_zero, List.set_cons_succ, List.map_cons, List.map_nil, List.length_cons, List.length_nil, List.cons_append, List.nil_append, List.append_nil, List.replicate_succ, List.replicate_zero, Nat.reduceAdd, Nat.reduceSub, List.head?_cons, List.tail_cons, List.take_succ_cons, List.take_zero, List.take_nil,
  Option.some.injEq, Option.map_some, Option.map_none, exists_eq_left', exists_eq_left, Rv.d.injEq, Rv.o.injEq, D.int.injEq, D.bl.injEq, D.str.injEq, D.tup.injEq, D.lst.injEq, MO.lst.injEq, List.cons.injEq, and_true, true_and, and_assoc, exists_and_left, decide_eq_true_eq, if_true, Bool.true_eq_false, Bool.false_eq_true, if_false, reduceIte, Bool.not_true, Bool.not_false, eq_self, exists_const, List.filterMap_cons_some, List.filterMap_nil, List.filterMap_cons, and_self, CMul_iff, or_true, true_or, Int.reduceLT, Int.reduceLE, Int.reduceToNat, Int.reduceNeg, Int.reduceSub, Int.reduceAdd, Int.reducePow, Nat.reducePow, Int.reduceMul, ixN_def, Int.cast_ofNat_Int, Int.reduceEq, decide_true, decide_false, dMul_i, dPow_i, strD, reduceCtorEq, ite_true, ite_false, Nat.reduceLT, Nat.reduceLeDiff, Int.reduceAbs, false_and, and_false, or_false, false_or, exists_false]
    refine ⟨sz (by decide), one, more, rfl, rfl, by omega, ?_⟩
    simp only [sSeq, sNil, sIf, sSet, sAsg, sPar, sPar3, sRet, sRetN, sExpr, sBreak, sCont, sSetIx, wVar, wC, wOp, wChain, wTb, wAnd, wOr, wNotT, wAndV, wOrV, wNotV, wIf, wNil, wCons, wTup, wLst, wLstO, wSl, wNoPart, wPart, wCB, wNeg, wOrT, wTruth, wJoin, wLc, sFor, wipeE, wKw, wYes, wCall, wCallO, wApp, iL, iT, iR1, iR2, iZ, iS, gN, gsNil, gsCons, gTn, endsOf, retR_d, retR_o, sFrz, frz_d, frz_o0, frz_o1, frz_o10, tru_l, tru_t, tru_b, tru_i, tru_n, List.eraseIdx_cons_zero, List.eraseIdx_cons_succ, exists_eq', exists_eq, shf_d, bck_d, toC_nil, toC_d, toC_o, ds_nil, ds_cons, dats_nil, dats_d, dat_d, dat_o0, dat_o1, dat_o2, startE, kg, cutE, cut1_d, cut1_n, cut1_o0, cut1_o1, zipA,
  dAdd_i, dI0_i, dMod_i, dFdiv_i, dPow_i, dLt_i, dLe_i, dGt_i, dGe_i, dLt_s, dLe_s, dGt_s, dGe_s, dEq_i, dEq_s, dEq_b, dEq_is, dEq_si, dEq_ni, dEq_in, dEq_sn, dEq_ns, dNe_i, dNe_s, dNe_b, dNe_is, dNe_si, dNe_ni, dNe_in, dIs_b, dIs_n, dIsNot_b, dIsNot_n, dIx_l, dIx_t, dSl_l, dSl_t, dEq_ti, dEq_li, D.isN, atI_0, atI_1, atI_2, atI_3, atI_4, atI_5, atI_map, map_int_inj, map_str_inj,
  fLen_t, fLen_l, fLen_s, fInt_i, fInt_b, fTup_l, fTup_t, fList_l, fList_t, fMax2_i, fMin2_i, fAbs_i, isi_int_int, isi_int_bool, isi_int_str, isi_int_tup, isi_int_lst, isi_bl_int, isi_bl_bool, isi_bl_str, isi_bl_tup, isi_str_int, isi_str_bool, isi_str_str, isi_str_tup, isi_tup_int, isi_tup_bool, isi_tup_str, isi_tup_tup, isi_lst_int, isi_lst_bool, isi_lst_str, isi_lst_tup, isi_lst_lst, isi_non_int, isi_non_bool, isi_non_str, isi_non_tup, items_t, items_l,
  List.getElem?_cons_zero, List.getElem?_cons_succ, List.set_cons_zero, List.set_cons_succ, List.map_cons, List.map_nil, List.length_cons, List.length_nil, List.cons_append, List.nil_append, List.append_nil, List.replicate_succ, List.replicate_zero, Nat.reduceAdd, Nat.reduceSub, List.head?_cons, List.tail_cons, List.take_succ_cons, List.take_zero, List.take_nil,
  Option.some.injEq, Option.map_some, Option.map_none, exists_eq_left', exists_eq_left, Rv.d.injEq, Rv.o.injEq, D.int.injEq, D.bl.injEq, D.str.injEq, D.tup.injEq, D.lst.injEq, MO.lst.injEq, List.cons.injEq, and_true, true_and, and_assoc, exists_and_left, decide_eq_true_eq, if_true, Bool.true_eq_false, Bool.false_eq_true, if_false, reduceIte, Bool.not_true, Bool.not_false, eq_self, exists_const, List.filterMap_cons_some, List.filterMap_nil, List.filterMap_cons, and_self, CMul_iff, or_true, true_or, Int.reduceLT, Int.reduceLE, Int.reduceToNat, Int.reduceNeg, Int.reduceSub, Int.reduceAdd, Int.reducePow, Nat.reducePow, Int.reduceMul, ixN_def, Int.cast_ofNat_Int, Int.reduceEq, decide_true, decide_false, dMul_i, dPow_i, strD, reduceCtorEq, ite_true, ite_false, Nat.reduceLT, Nat.reduceLeDiff, Int.reduceAbs, false_and, and_false, or_false, false_or, exists_false]
    refine ⟨other, more, rfl, rfl, by omega, ?_⟩
    simp only [sSeq, sNil, sIf, sSet, sAsg, sPar, sPar3, sRet, sRetN, sExpr, sBreak, sCont, sSetIx, wVar, wC, wOp, wChain, wTb, wAnd, wOr, wNotT, wAndV, wOrV, wNotV, wIf, wNil, wCons, wTup, wLst, wLstO, wSl, wNoPart, wPart, wCB, wNeg, wOrT, wTruth, wJoin, wLc, sFor, wipeE, wKw, wYes, wCall, wCallO, wApp, iL, iT, iR1, iR2, iZ, iS, gN, gsNil, gsCons, gTn, endsOf, retR_d, retR_o, sFrz, frz_d, frz_o0, frz_o1, frz_o10, tru_l, tru_t, tru_b, tru_i, tru_n, List.eraseIdx_cons_zero, List.eraseIdx_cons_succ, exists_eq', exists_eq, shf_d, bck_d, toC_nil, toC_d, toC_o, ds_nil, ds_cons, dats_nil, dats_d, dat_d, dat_o0, dat_o1, dat_o2, startE, kg, cutE, cut1_d, cut1_n, cut1_o0, cut1_o1, zipA,
  dAdd_i, dI0_i, dMod_i, dFdiv_i, dPow_i, dLt_i, dLe_i, dGt_i, dGe_i, dLt_s, dLe_s, dGt_s, dGe_s, dEq_i, dEq_s, dEq_b, dEq_is, dEq_si, dEq_ni, dEq_in, dEq_sn, dEq_ns, dNe_i, dNe_s, dNe_b, dNe_is, dNe_si, dNe_ni, dNe_in, dIs_b, dIs_n, dIsNot_b, dIsNot_n, dIx_l, dIx_t, dSl_l, dSl_t, dEq_ti, dEq_li, D.isN, atI_0, atI_1, atI_2, atI_3, atI_4, atI_5, atI_map, map_int_inj, map_str_inj,
  fLen_t, fLen_l, fLen_s, fInt_i, fInt_b, fTup_l, fTup_t, fList_l, fList_t, fMax2_i, fMin2_i, fAbs_i, isi_int_int, isi_int_bool, isi_int_str, isi_int_tup, isi_int_lst, isi_bl_int, isi_bl_bool, isi_bl_str, isi_bl_tup, isi_str_int, isi_str_bool, isi_str_str, isi_str_tup, isi_tup_int, isi_tup_bool, isi_tup_str, isi_tup_tup, isi_lst_int, isi_lst_bool, isi_lst_str, isi_lst_tup, isi_lst_lst, isi_non_int, isi_non_bool, isi_non_str, isi_non_tup, items_t, items_l,
  List.getElem?_cons_zero, List.getElem?_cons_succ, List.set_cons_zero, List.set_cons_succ, List.map_cons, List.map_nil, List.length_cons, List.length_nil, List.cons_append, List.nil_append, List.append_nil, List.replicate_succ, List.replicate_zero, Nat.reduceAdd, Nat.reduceSub, List.head?_cons, List.tail_cons, List.take_succ_cons, List.take_zero, List.take_nil,
  Option.some.injEq, Option.map_some, Option.map_none, exists_eq_left', exists_eq_left, Rv.d.injEq, Rv.o.injEq, D.int.injEq, D.bl.injEq, D.str.injEq, D.tup.injEq, D.lst.injEq, MO.lst.injEq, List.cons.injEq, and_true, true_and, and_assoc, exists_and_left, decide_eq_true_eq, if_true, Bool.true_eq_false, Bool.false_eq_true, if_false, reduceIte, Bool.not_true, Bool.not_false, eq_self, exists_const, List.filterMap_cons_some, List.filterMap_nil, List.filterMap_cons, and_self, CMul_iff, or_true, true_or, Int.reduceLT, Int.reduceLE, Int.reduceToNat, Int.reduceNeg, Int.reduceSub, Int.reduceAdd, Int.reducePow, Nat.reducePow, Int.reduceMul, ixN_def, Int.cast_ofNat_Int, Int.reduceEq, decide_true, decide_false, dMul_i, dPow_i, strD, reduceCtorEq, ite_true, ite_false, Nat.reduceLT, Nat.reduceLeDiff, Int.reduceAbs, false_and, and_false, or_false, false_or, exists_false, b1, b2, lput_eq one more s1, lput_eq other more s2, show rngD 0 4 = [.int 0, .int 1, .int 2, .int 3] from rfl]
    refine ⟨sz (by decide), for_cons ?_⟩
    simp only [sSeq, sNil, sIf, sSet, sAsg, sPar, sPar3, sRet, sRetN, sExpr, sBreak, sCont, sSetIx, wVar, wC, wOp, wChain, wTb, wAnd, wOr, wNotT, wAndV, wOrV, wNotV, wIf, wNil, wCons, wTup, wLst, wLstO, wSl, wNoPart, wPart, wCB, wNeg, wOrT, wTruth, wJoin, wLc, sFor, wipeE, wKw, wYes, wCall, wCallO, wApp, iL, iT, iR1, iR2, iZ, iS, gN, gsNil, gsCons, gTn, endsOf, retR_d, retR_o, sFrz, frz_d, frz_o0, frz_o1, frz_o10, tru_l, tru_t, tru_b, tru_i, tru_n, List.eraseIdx_cons_zero, List.eraseIdx_cons_succ, exists_eq', exists_eq, shf_d, bck_d, toC_nil, toC_d, toC_o, ds_nil, ds_cons, dats_nil, dats_d, dat_d, dat_o0, dat_o1, dat_o2, startE, kg, cutE, cut1_d, cut1_n, cut1_o0, cut1_o1, zipA,
  dAdd_i, dI0_i, dMod_i, dFdiv_i, dPow_i, dLt_i, dLe_i, dGt_i, dGe_i, dLt_s, dLe_s, dGt_s, dGe_s, dEq_i, dEq_s, dEq_b, dEq_is, dEq_si, dEq_ni, dEq_in, dEq_sn, dEq_ns, dNe_i, dNe_s, dNe_b, dNe_is, dNe_si, dNe_ni, dNe_in, dIs_b, dIs_n, dIsNot_b, dIsNot_n, dIx_l, dIx_t, dSl_l, dSl_t, dEq_ti, dEq_li, D.isN, atI_0, atI_1, atI_2, atI_3, atI_4, atI_5, atI_map, map_int_inj, map_str_inj,
  fLen_t, fLen_l, fLen_s, fInt_i, fInt_b, fTup_l, fTup_t, fList_l, fList_t, fMax2_i, fMin2_i, fAbs_i, isi_int_int, isi_int_bool, isi_int_str, isi_int_tup, isi_int_lst, isi_bl_int, isi_bl_bool, isi_bl_str, isi_bl_tup, isi_str_int, isi_str_bool, isi_str_str, isi_str_tup, isi_tup_int, isi_tup_bool, isi_tup_str, isi_tup_tup, isi_lst_int, isi_lst_bool, isi_lst_str, isi_lst_tup, isi_lst_lst, isi_non_int, isi_non_bool, isi_non_str, isi_non_tup, items_t, items_l,
  List.getElem?_cons_zero, List.getElem?_cons_succ, List.set_cons_zero, List.set_cons_succ, List.map_cons, List.map_nil, List.length_cons, List.length_nil, List.cons_append, List.nil_append, List.append_nil, List.replicate_succ, List.replicate_zero, Nat.reduceAdd, Nat.reduceSub, List.head?_cons, List.tail_cons, List.take_succ_cons, List.take_zero, List.take_nil,
  Option.some.injEq, Option.map_some, Option.map_none, exists_eq_left', exists_eq_left, Rv.d.injEq, Rv.o.injEq, D.int.injEq, D.bl.injEq, D.str.injEq, D.tup.injEq, D.lst.injEq, MO.lst.injEq, List.cons.injEq, and_true, true_and, and_assoc, exists_and_left, decide_eq_true_eq, if_true, Bool.true_eq_false, Bool.false_eq_true, if_false, reduceIte, Bool.not_true, Bool.not_false, eq_self, exists_const, List.filterMap_cons_some, List.filterMap_nil, List.filterMap_cons, and_self, CMul_iff, or_true, true_or, Int.reduceLT, Int.reduceLE, Int.reduceToNat, Int.reduceNeg, Int.reduceSub, Int.reduceAdd, Int.reducePow, Nat.reducePow, Int.reduceMul, ixN_def, Int.cast_ofNat_Int, Int.reduceEq, decide_true, decide_false, dMul_i, dPow_i, strD, reduceCtorEq, ite_true, ite_false, Nat.reduceLT, Nat.reduceLeDiff, Int.reduceAbs, false_and, and_false, or_false, false_or, exists_false, c__law_same]
    refine ⟨same_t _ (by rw [putIn_len]; omega), for_cons ?_⟩
    simp only [sSeq, sNil, sIf, sSet, sAsg, sPar, sPar3, sRet, sRetN, sExpr, sBreak, sCont, sSetIx, wVar, wC, wOp, wChain, wTb, wAnd, wOr, wNotT, wAndV, wOrV, wNotV, wIf, wNil, wCons, wTup, wLst, wLstO, wSl, wNoPart, wPart, wCB, wNeg, wOrT, wTruth, wJoin, wLc, sFor, wipeE, wKw, wYes, wCall, wCallO, wApp, iL, iT, iR1, iR2, iZ, iS, gN, gsNil, gsCons, gTn, endsOf, retR_d, retR_o, sFrz, frz_d, frz_o0, frz_o1, frz_o10, tru_l, tru_t, tru_b, tru_i, tru_n, List.eraseIdx_cons_zero, List.eraseIdx_cons_succ, exists_eq', exists_eq, shf_d, bck_d, toC_nil, toC_d, toC_o, ds_nil, ds_cons, dats_nil, dats_d, dat_d, dat_o0, dat_o1, dat_o2, startE, kg, cutE, cut1_d, cut1_n, cut1_o0, cut1_o1, zipA,
  dAdd_i, dI0_i, dMod_i, dFdiv_i, dPow_i, dLt_i, dLe_i, dGt_i, dGe_i, dLt_s, dLe_s, dGt_s, dGe_s, dEq_i, dEq_s, dEq_b, dEq_is, dEq_si, dEq_ni, dEq_in, dEq_sn, dEq_ns, dNe_i, dNe_s, dNe_b, dNe_is, dNe_si, dNe_ni, dNe_in, dIs_b, dIs_n, dIsNot_b, dIsNot_n, dIx_l, dIx_t, dSl_l, dSl_t, dEq_ti, dEq_li, D.isN, atI_0, atI_1, atI_2, atI_3, atI_4, atI_5, atI_map, map_int_inj, map_str_inj,
  fLen_t, fLen_l, fLen_s, fInt_i, fInt_b, fTup_l, fTup_t, fList_l, fList_t, fMax2_i, fMin2_i, fAbs_i, isi_int_int, isi_int_bool, isi_int_str, isi_int_tup, isi_int_lst, isi_bl_int, isi_bl_bool, isi_bl_str, isi_bl_tup, isi_str_int, isi_str_bool, isi_str_str, isi_str_tup, isi_tup_int, isi_tup_bool, isi_tup_str, isi_tup_tup, isi_lst_int, isi_lst_bool, isi_lst_str, isi_lst_tup, isi_lst_lst, isi_non_int, isi_non_bool, isi_non_str, isi_non_tup, items_t, items_l,
  List.getElem?_cons_zero, List.getElem?_cons_succ, List.set_cons_zero, List.set_cons_succ, List.map_cons, List.map_nil, List.length_cons, List.length_nil, List.cons_append, List.nil_append, List.append_nil, List.replicate_succ, List.replicate_zero, Nat.reduceAdd, Nat.reduceSub, List.head?_cons, List.tail_cons, List.take_succ_cons, List.take_zero, List.take_nil,
  Option.some.injEq, Option.map_some, Option.map_none, exists_eq_left', exists_eq_left, Rv.d.injEq, Rv.o.injEq, D.int.injEq, D.bl.injEq, D.str.injEq, D.tup.injEq, D.lst.injEq, MO.lst.injEq, List.cons.injEq, and_true, true_and, and_assoc, exists_and_left, decide_eq_true_eq, if_true, Bool.true_eq_false, Bool.false_eq_true, if_false, reduceIte, Bool.not_true, Bool.not_false, eq_self, exists_const, List.filterMap_cons_some, List.filterMap_nil, List.filterMap_cons, and_self, CMul_iff, or_true, true_or, Int.reduceLT, Int.reduceLE, Int.reduceToNat, Int.reduceNeg, Int.reduceSub, Int.reduceAdd, Int.reducePow, Nat.reducePow, Int.reduceMul, ixN_def, Int.cast_ofNat_Int, Int.reduceEq, decide_true, decide_false, dMul_i, dPow_i, strD, reduceCtorEq, ite_true, ite_false, Nat.reduceLT, Nat.reduceLeDiff, Int.reduceAbs, false_and, and_false, or_false, false_or, exists_false, c__law_same]
    refine ⟨same_t _ (by rw [putIn_len]; omega), for_cons ?_⟩
    simp only [sSeq, sNil, sIf, sSet, sAsg, sPar, sPar3, sRet, sRetN, sExpr, sBreak, sCont, sSetIx, wVar, wC, wOp, wChain, wTb, wAnd, wOr, wNotT, wAndV, wOrV, wNotV, wIf, wNil, wCons, wTup, wLst, wLstO, wSl, wNoPart, wPart, wCB, wNeg, wOrT, wTruth, wJoin, wLc, sFor, wipeE, wKw, wYes, wCall, wCallO, wApp, iL, iT, iR1, iR2, iZ, iS, gN, gsNil, gsCons, gTn, endsOf, retR_d, retR_o, sFrz, frz_d, frz_o0, frz_o1, frz_o10, tru_l, tru_t, tru_b, tru_i, tru_n, List.eraseIdx_cons_zero, List.eraseIdx_cons_succ, exists_eq', exists_eq, shf_d, bck_d, toC_nil, toC_d, toC_o, ds_nil, ds_cons, dats_nil, dats_d, dat_d, dat_o0, dat_o1, dat_o2, startE, kg, cutE, cut1_d, cut1_n, cut1_o0, cut1_o1, zipA,
  dAdd_i, dI0_i, dMod_i, dFdiv_i, dPow_i, dLt_i, dLe_i, dGt_i, dGe_i, dLt_s, dLe_s, dGt_s, dGe_s, dEq_i, dEq_s, dEq_b, dEq_is, dEq_si, dEq_ni, dEq_in, dEq_sn, dEq_ns, dNe_i, dNe_s, dNe_b, dNe_is, dNe_si, dNe_ni, dNe_in, dIs_b, dIs_n, dIsNot_b, dIsNot_n, dIx_l, dIx_t, dSl_l, dSl_t, dEq_ti, dEq_li, D.isN, atI_0, atI_1, atI_2, atI_3, atI_4, atI_5, atI_map, map_int_inj, map_str_inj,
  fLen_t, fLen_l, fLen_s, fInt_i, fInt_b, fTup_l, fTup_t, fList_l, fList_t, fMax2_i, fMin2_i, fAbs_i, isi_int_int, isi_int_bool, isi_int_str, isi_int_tup, isi_int_lst, isi_bl_int, isi_bl_bool, isi_bl_str, isi_bl_tup, isi_str_int, isi_str_bool, isi_str_str, isi_str_tup, isi_tup_int, isi_tup_bool, isi_tup_str, isi_tup_tup, isi_lst_int, isi_lst_bool, isi_lst_str, isi_lst_tup, isi_lst_lst, isi_non_int, isi_non_bool, isi_non_str, isi_non_tup, items_t, items_l,
  List.getElem?_cons_zero, List.getElem?_cons_succ, List.set_cons_zero, List.set_cons_succ, List.map_cons, List.map_nil, List.length_cons, List.length_nil, List.cons_append, List.nil_append, List.append_nil, List.replicate_succ, List.replicate_zero, Nat.reduceAdd, Nat.reduceSub, List.head?_cons, List.tail_cons, List.take_succ_cons, List.take_zero, List.take_nil,
  Option.some.injEq, Option.map_some, Option.map_none, exists_eq_left', exists_eq_left, Rv.d.injEq, Rv.o.injEq, D.int.injEq, D.bl.injEq, D.str.injEq, D.tup.injEq, D.lst.injEq, MO.lst.injEq, List.cons.injEq, and_true, true_and, and_assoc, exists_and_left, decide_eq_true_eq, if_true, Bool.true_eq_false, Bool.false_eq_true, if_false, reduceIte, Bool.not_true, Bool.not_false, eq_self, exists_const, List.filterMap_cons_some, List.filterMap_nil, List.filterMap_cons, and_self, CMul_iff, or_true, true_or, Int.reduceLT, Int.reduceLE, Int.reduceToNat, Int.reduceNeg, Int.reduceSub, Int.reduceAdd, Int.reducePow, Nat.reducePow, Int.reduceMul, ixN_def, Int.cast_ofNat_Int, Int.reduceEq, decide_true, decide_false, dMul_i, dPow_i, strD, reduceCtorEq, ite_true, ite_false, Nat.reduceLT, Nat.reduceLeDiff, Int.reduceAbs, false_and, and_false, or_false, false_or, exists_false, c__law_same]
    refine ⟨same_t _ (by omega), for_cons ?_⟩
    simp only [sSeq, sNil, sIf, sSet, sAsg, sPar, sPar3, sRet, sRetN, sExpr, sBreak, sCont, sSetIx, wVar, wC, wOp, wChain, wTb, wAnd, wOr, wNotT, wAndV, wOrV, wNotV, wIf, wNil, wCons, wTup, wLst, wLstO, wSl, wNoPart, wPart, wCB, wNeg, wOrT, wTruth, wJoin, wLc, sFor, wipeE, wKw, wYes, wCall, wCallO, wApp, iL, iT, iR1, iR2, iZ, iS, gN, gsNil, gsCons, gTn, endsOf, retR_d, retR_o, sFrz, frz_d, frz_o0, frz_o1, frz_o10, tru_l, tru_t, tru_b, tru_i, tru_n, List.eraseIdx_cons_zero, List.eraseIdx_cons_succ, exists_eq', exists_eq, shf_d, bck_d, toC_nil, toC_d, toC_o, ds_nil, ds_cons, dats_nil, dats_d, dat_d, dat_o0, dat_o1, dat_o2, startE, kg, cutE, cut1_d, cut1_n, cut1_o0, cut1_o1, zipA,
  dAdd_i, dI0_i, dMod_i, dFdiv_i, dPow_i, dLt_i, dLe_i, dGt_i, dGe_i, dLt_s, dLe_s, dGt_s, dGe_s, dEq_i, dEq_s, dEq_b, dEq_is, dEq_si, dEq_ni, dEq_in, dEq_sn, dEq_ns, dNe_i, dNe_s, dNe_b, dNe_is, dNe_si, dNe_ni, dNe_in, dIs_b, dIs_n, dIsNot_b, dIsNot_n, dIx_l, dIx_t, dSl_l, dSl_t, dEq_ti, dEq_li, D.isN, atI_0, atI_1, atI_2, atI_3, atI_4, atI_5, atI_map, map_int_inj, map_str_inj,
  fLen_t, fLen_l, fLen_s, fInt_i, fInt_b, fTup_l, fTup_t, fList_l, fList_t, fMax2_i, fMin2_i, fAbs_i, isi_int_int, isi_int_bool, isi_int_str, isi_int_tup, isi_int_lst, isi_bl_int, isi_bl_bool, isi_bl_str, isi_bl_tup, isi_str_int, isi_str_bool, isi_str_str, isi_str_tup, isi_tup_int, isi_tup_bool, isi_tup_str, isi_tup_tup, isi_lst_int, isi_lst_bool, isi_lst_str, isi_lst_tup, isi_lst_lst, isi_non_int, isi_non_bool, isi_non_str, isi_non_tup, items_t, items_l,
  List.getElem?_cons_zero, List.getElem?_cons_succ, List.set_cons_zero, List.set_cons_succ, List.map_cons, List.map_nil, List.length_cons, List.length_nil, List.cons_append, List.nil_append, List.append_nil, List.replicate_succ, List.replicate_zero, Nat.reduceAdd, Nat.reduceSub, List.head?_cons, List.tail_cons, List.take_succ_cons, List.take_zero, List.take_nil,
  Option.some.injEq, Option.map_some, Option.map_none, exists_eq_left', exists_eq_left, Rv.d.injEq, Rv.o.injEq, D.int.injEq, D.bl.injEq, D.str.injEq, D.tup.injEq, D.lst.injEq, MO.lst.injEq, List.cons.injEq, and_true, true_and, and_assoc, exists_and_left, decide_eq_true_eq, if_true, Bool.true_eq_false, Bool.false_eq_true, if_false, reduceIte, Bool.not_true, Bool.not_false, eq_self, exists_const, List.filterMap_cons_some, List.filterMap_nil, List.filterMap_cons, and_self, CMul_iff, or_true, true_or, Int.reduceLT, Int.reduceLE, Int.reduceToNat, Int.reduceNeg, Int.reduceSub, Int.reduceAdd, Int.reducePow, Nat.reducePow, Int.reduceMul, ixN_def, Int.cast_ofNat_Int, Int.reduceEq, decide_true, decide_false, dMul_i, dPow_i, strD, reduceCtorEq, ite_true, ite_false, Nat.reduceLT, Nat.reduceLeDiff, Int.reduceAbs, false_and, and_false, or_false, false_or, exists_false, c__law_same]
    refine ⟨same_t _ (by omega), for_nil ?_⟩
    have f1 : ∀ t, c__law_same [.d (.tup []), .d (.tup [])] [] t ↔ t (.d (.bl true)) [] := fun t => ⟨fun ⟨d, e, _, _, q⟩ => q, fun q => ⟨_, rfl, rfl, same_t [] (by simp), q⟩⟩
    have f2 : ∀ t, c__law_same [.d .non, .d .non] [] t ↔ t (.d (.bl true)) [] := fun t => ⟨fun ⟨d, e, _, _, q⟩ => q, fun q => ⟨_, rfl, rfl, .inl rfl, q⟩⟩
    have f3 : ∀ x t, c__law_same [.d (.int x), .d (.int x)] [] t ↔ t (.d (.bl true)) [] := fun x t => ⟨fun ⟨d, e, _, _, q⟩ => q, fun q => ⟨_, rfl, rfl, same_i _, q⟩⟩
    have f4 : ∀ t, c_is_rising [.d (.tup [])] [] t ↔ t (.d (.bl true)) [] := fun t => ⟨fun ⟨ns, e, _, _, q⟩ => by cases ns with | nil => exact q | cons => simp at e, fun q => ⟨[], rfl, rfl, by simp, q⟩⟩
    have s00 : sortI ([] ++ []) = [] := by simp [sortI]
    have f5 : ∀ t, c_poured [.d (.tup []), .d (.tup [])] [] t ↔ t (.d (.tup [])) [] := fun t => ⟨fun ⟨ns, ms, e, _, _, q⟩ => by cases ns with | nil => (cases ms with | nil => (rw [s00] at q; exact q) | cons => simp at e) | cons => simp at e, fun q => ⟨[], [], rfl, rfl, by simp, by rw [s00]; exact q⟩⟩
    have z0 : 0 ≤ sizeLine := sz (by decide)
    have c1 : rising bs = true := (srt_rising _).mpr g1
    cases one with
    | nil =>
      simp only [sSeq, sNil, sIf, sSet, sAsg, sPar, sPar3, sRet, sRetN, sExpr, sBreak, sCont, sSetIx, wVar, wC, wOp, wChain, wTb, wAnd, wOr, wNotT, wAndV, wOrV, wNotV, wIf, wNil, wCons, wTup, wLst, wLstO, wSl, wNoPart, wPart, wCB, wNeg, wOrT, wTruth, wJoin, wLc, sFor, wipeE, wKw, wYes, wCall, wCallO, wApp, iL, iT, iR1, iR2, iZ, iS, gN, gsNil, gsCons, gTn, endsOf, retR_d, retR_o, sFrz, frz_d, frz_o0, frz_o1, frz_o10, tru_l, tru_t, tru_b, tru_i, tru_n, List.eraseIdx_cons_zero, List.eraseIdx_cons_succ, exists_eq', exists_eq, shf_d, bck_d, toC_nil, toC_d, toC_o, ds_nil, ds_cons, dats_nil, dats_d, dat_d, dat_o0, dat_o1, dat_o2, startE, kg, cutE, cut1_d, cut1_n, cut1_o0, cut1_o1, zipA,
  dAdd_i, dI0_i, dMod_i, dFdiv_i, dPow_i, dLt_i, dLe_i, dGt_i, dGe_i, dLt_s, dLe_s, dGt_s, dGe_s, dEq_i, dEq_s, dEq_b, dEq_is, dEq_si, dEq_ni, dEq_in, dEq_sn, dEq_ns, dNe_i, dNe_s, dNe_b, dNe_is, dNe_si, dNe_ni, dNe_in, dIs_b, dIs_n, dIsNot_b, dIsNot_n, dIx_l, dIx_t, dSl_l, dSl_t, dEq_ti, dEq_li, D.isN, atI_0, atI_1, atI_2, atI_3, atI_4, atI_5, atI_map, map_int_inj, map_str_inj,
  fLen_t, fLen_l, fLen_s, fInt_i, fInt_b, fTup_l, fTup_t, fList_l, fList_t, fMax2_i, fMin2_i, fAbs_i, isi_int_int, isi_int_bool, isi_int_str, isi_int_tup, isi_int_lst, isi_bl_int, isi_bl_bool, isi_bl_str, isi_bl_tup, isi_str_int, isi_str_bool, isi_str_str, isi_str_tup, isi_tup_int, isi_tup_bool, isi_tup_str, isi_tup_tup, isi_lst_int, isi_lst_bool, isi_lst_str, isi_lst_tup, isi_lst_lst, isi_non_int, isi_non_bool, isi_non_str, isi_non_tup, items_t, items_l,
  List.getElem?_cons_zero, List.getElem?_cons_succ, List.set_cons_zero, List.set_cons_succ, List.map_cons, List.map_nil, List.length_cons, List.length_nil, List.cons_append, List.nil_append, List.append_nil, List.replicate_succ, List.replicate_zero, Nat.reduceAdd, Nat.reduceSub, List.head?_cons, List.tail_cons, List.take_succ_cons, List.take_zero, List.take_nil,
  Option.some.injEq, Option.map_some, Option.map_none, exists_eq_left', exists_eq_left, Rv.d.injEq, Rv.o.injEq, D.int.injEq, D.bl.injEq, D.str.injEq, D.tup.injEq, D.lst.injEq, MO.lst.injEq, List.cons.injEq, and_true, true_and, and_assoc, exists_and_left, decide_eq_true_eq, if_true, Bool.true_eq_false, Bool.false_eq_true, if_false, reduceIte, Bool.not_true, Bool.not_false, eq_self, exists_const, List.filterMap_cons_some, List.filterMap_nil, List.filterMap_cons, and_self, CMul_iff, or_true, true_or, Int.reduceLT, Int.reduceLE, Int.reduceToNat, Int.reduceNeg, Int.reduceSub, Int.reduceAdd, Int.reducePow, Nat.reducePow, Int.reduceMul, ixN_def, Int.cast_ofNat_Int, Int.reduceEq, decide_true, decide_false, dMul_i, dPow_i, strD, reduceCtorEq, ite_true, ite_false, Nat.reduceLT, Nat.reduceLeDiff, Int.reduceAbs, false_and, and_false, or_false, false_or, exists_false, lo_nil, f1, f2, f3, f4, f5, z0]
      refine ⟨bs, rfl, rfl, by omega, ?_⟩
      simp only [sSeq, sNil, sIf, sSet, sAsg, sPar, sPar3, sRet, sRetN, sExpr, sBreak, sCont, sSetIx, wVar, wC, wOp, wChain, wTb, wAnd, wOr, wNotT, wAndV, wOrV, wNotV, wIf, wNil, wCons, wTup, wLst, wLstO, wSl, wNoPart, wPart, wCB, wNeg, wOrT, wTruth, wJoin, wLc, sFor, wipeE, wKw, wYes, wCall, wCallO, wApp, iL, iT, iR1, iR2, iZ, iS, gN, gsNil, gsCons, gTn, endsOf, retR_d, retR_o, sFrz, frz_d, frz_o0, frz_o1, frz_o10, tru_l, tru_t, tru_b, tru_i, tru_n, List.eraseIdx_cons_zero, List.eraseIdx_cons_succ, exists_eq', exists_eq, shf_d, bck_d, toC_nil, toC_d, toC_o, ds_nil, ds_cons, dats_nil, dats_d, dat_d, dat_o0, dat_o1, dat_o2, startE, kg, cutE, cut1_d, cut1_n, cut1_o0, cut1_o1, zipA,
  dAdd_i, dI0_i, dMod_i, dFdiv_i, dPow_i, dLt_i, dLe_i, dGt_i, dGe_i, dLt_s, dLe_s, dGt_s, dGe_s, dEq_i, dEq_s, dEq_b, dEq_is, dEq_si, dEq_ni, dEq_in, dEq_sn, dEq_ns, dNe_i, dNe_s, dNe_b, dNe_is, dNe_si, dNe_ni, dNe_in, dIs_b, dIs_n, dIsNot_b, dIsNot_n, dIx_l, dIx_t, dSl_l, dSl_t, dEq_ti, dEq_li, D.isN, atI_0, atI_1, atI_2, atI_3, atI_4, atI_5, atI_map, map_int_inj, map_str_inj,
  fLen_t, fLen_l, fLen_s, fInt_i, fInt_b, fTup_l, fTup_t, fList_l, fList_t, fMax2_i, fMin2_i, fAbs_i, isi_int_int, isi_int_bool, isi_int_str, isi_int_tup, isi_int_lst, isi_bl_int, isi_bl_bool, isi_bl_str, isi_bl_tup, isi_str_int, isi_str_bool, isi_str_str, isi_str_tup, isi_tup_int, isi_tup_bool, isi_tup_str, isi_tup_tup, isi_lst_int, isi_lst_bool, isi_lst_str, isi_lst_tup, isi_lst_lst, isi_non_int, isi_non_bool, isi_non_str, isi_non_tup, items_t, items_l,
  List.getElem?_cons_zero, List.getElem?_cons_succ, List.set_cons_zero, List.set_cons_succ, List.map_cons, List.map_nil, List.length_cons, List.length_nil, List.cons_append, List.nil_append, List.append_nil, List.replicate_succ, List.replicate_zero, Nat.reduceAdd, Nat.reduceSub, List.head?_cons, List.tail_cons, List.take_succ_cons, List.take_zero, List.take_nil,
  Option.some.injEq, Option.map_some, Option.map_none, exists_eq_left', exists_eq_left, Rv.d.injEq, Rv.o.injEq, D.int.injEq, D.bl.injEq, D.str.injEq, D.tup.injEq, D.lst.injEq, MO.lst.injEq, List.cons.injEq, and_true, true_and, and_assoc, exists_and_left, decide_eq_true_eq, if_true, Bool.true_eq_false, Bool.false_eq_true, if_false, reduceIte, Bool.not_true, Bool.not_false, eq_self, exists_const, List.filterMap_cons_some, List.filterMap_nil, List.filterMap_cons, and_self, CMul_iff, or_true, true_or, Int.reduceLT, Int.reduceLE, Int.reduceToNat, Int.reduceNeg, Int.reduceSub, Int.reduceAdd, Int.reducePow, Nat.reducePow, Int.reduceMul, ixN_def, Int.cast_ofNat_Int, Int.reduceEq, decide_true, decide_false, dMul_i, dPow_i, strD, reduceCtorEq, ite_true, ite_false, Nat.reduceLT, Nat.reduceLeDiff, Int.reduceAbs, false_and, and_false, or_false, false_or, exists_false, c1, f4, z0]
      refine ⟨n + 402, t3, bs, rfl, rfl, ht3, by omega, g1, by omega, fun y hy => r2 y (by simpa using g2.mem_iff.mp hy), fun t4 ht4 => ?_⟩
      simp only [sSeq, sNil, sIf, sSet, sAsg, sPar, sPar3, sRet, sRetN, sExpr, sBreak, sCont, sSetIx, wVar, wC, wOp, wChain, wTb, wAnd, wOr, wNotT, wAndV, wOrV, wNotV, wIf, wNil, wCons, wTup, wLst, wLstO, wSl, wNoPart, wPart, wCB, wNeg, wOrT, wTruth, wJoin, wLc, sFor, wipeE, wKw, wYes, wCall, wCallO, wApp, iL, iT, iR1, iR2, iZ, iS, gN, gsNil, gsCons, gTn, endsOf, retR_d, retR_o, sFrz, frz_d, frz_o0, frz_o1, frz_o10, tru_l, tru_t, tru_b, tru_i, tru_n, List.eraseIdx_cons_zero, List.eraseIdx_cons_succ, exists_eq', exists_eq, shf_d, bck_d, toC_nil, toC_d, toC_o, ds_nil, ds_cons, dats_nil, dats_d, dat_d, dat_o0, dat_o1, dat_o2, startE, kg, cutE, cut1_d, cut1_n, cut1_o0, cut1_o1, zipA,
  dAdd_i, dI0_i, dMod_i, dFdiv_i, dPow_i, dLt_i, dLe_i, dGt_i, dGe_i, dLt_s, dLe_s, dGt_s, dGe_s, dEq_i, dEq_s, dEq_b, dEq_is, dEq_si, dEq_ni, dEq_in, dEq_sn, dEq_ns, dNe_i, dNe_s, dNe_b, dNe_is, dNe_si, dNe_ni, dNe_in, dIs_b, dIs_n, dIsNot_b, dIsNot_n, dIx_l, dIx_t, dSl_l, dSl_t, dEq_ti, dEq_li, D.isN, atI_0, atI_1, atI_2, atI_3, atI_4, atI_5, atI_map, map_int_inj, map_str_inj,
  fLen_t, fLen_l, fLen_s, fInt_i, fInt_b, fTup_l, fTup_t, fList_l, fList_t, fMax2_i, fMin2_i, fAbs_i, isi_int_int, isi_int_bool, isi_int_str, isi_int_tup, isi_int_lst, isi_bl_int, isi_bl_bool, isi_bl_str, isi_bl_tup, isi_str_int, isi_str_bool, isi_str_str, isi_str_tup, isi_tup_int, isi_tup_bool, isi_tup_str, isi_tup_tup, isi_lst_int, isi_lst_bool, isi_lst_str, isi_lst_tup, isi_lst_lst, isi_non_int, isi_non_bool, isi_non_str, isi_non_tup, items_t, items_l,
  List.getElem?_cons_zero, List.getElem?_cons_succ, List.set_cons_zero, List.set_cons_succ, List.map_cons, List.map_nil, List.length_cons, List.length_nil, List.cons_append, List.nil_append, List.append_nil, List.replicate_succ, List.replicate_zero, Nat.reduceAdd, Nat.reduceSub, List.head?_cons, List.tail_cons, List.take_succ_cons, List.take_zero, List.take_nil,
  Option.some.injEq, Option.map_some, Option.map_none, exists_eq_left', exists_eq_left, Rv.d.injEq, Rv.o.injEq, D.int.injEq, D.bl.injEq, D.str.injEq, D.tup.injEq, D.lst.injEq, MO.lst.injEq, List.cons.injEq, and_true, true_and, and_assoc, exists_and_left, decide_eq_true_eq, if_true, Bool.true_eq_false, Bool.false_eq_true, if_false, reduceIte, Bool.not_true, Bool.not_false, eq_self, exists_const, List.filterMap_cons_some, List.filterMap_nil, List.filterMap_cons, and_self, CMul_iff, or_true, true_or, Int.reduceLT, Int.reduceLE, Int.reduceToNat, Int.reduceNeg, Int.reduceSub, Int.reduceAdd, Int.reducePow, Nat.reducePow, Int.reduceMul, ixN_def, Int.cast_ofNat_Int, Int.reduceEq, decide_true, decide_false, dMul_i, dPow_i, strD, reduceCtorEq, ite_true, ite_false, Nat.reduceLT, Nat.reduceLeDiff, Int.reduceAbs, false_and, and_false, or_false, false_or, exists_false]
      exact h _ ht4
    | cons x one =>
      have c2 : rising (x :: one) = true := (srt_rising _).mpr s1
      simp only [sSeq, sNil, sIf, sSet, sAsg, sPar, sPar3, sRet, sRetN, sExpr, sBreak, sCont, sSetIx, wVar, wC, wOp, wChain, wTb, wAnd, wOr, wNotT, wAndV, wOrV, wNotV, wIf, wNil, wCons, wTup, wLst, wLstO, wSl, wNoPart, wPart, wCB, wNeg, wOrT, wTruth, wJoin, wLc, sFor, wipeE, wKw, wYes, wCall, wCallO, wApp, iL, iT, iR1, iR2, iZ, iS, gN, gsNil, gsCons, gTn, endsOf, retR_d, retR_o, sFrz, frz_d, frz_o0, frz_o1, frz_o10, tru_l, tru_t, tru_b, tru_i, tru_n, List.eraseIdx_cons_zero, List.eraseIdx_cons_succ, exists_eq', exists_eq, shf_d, bck_d, toC_nil, toC_d, toC_o, ds_nil, ds_cons, dats_nil, dats_d, dat_d, dat_o0, dat_o1, dat_o2, startE, kg, cutE, cut1_d, cut1_n, cut1_o0, cut1_o1, zipA,
  dAdd_i, dI0_i, dMod_i, dFdiv_i, dPow_i, dLt_i, dLe_i, dGt_i, dGe_i, dLt_s, dLe_s, dGt_s, dGe_s, dEq_i, dEq_s, dEq_b, dEq_is, dEq_si, dEq_ni, dEq_in, dEq_sn, dEq_ns, dNe_i, dNe_s, dNe_b, dNe_is, dNe_si, dNe_ni, dNe_in, dIs_b, dIs_n, dIsNot_b, dIsNot_n, dIx_l, dIx_t, dSl_l, dSl_t, dEq_ti, dEq_li, D.isN, atI_0, atI_1, atI_2, atI_3, atI_4, atI_5, atI_map, map_int_inj, map_str_inj,
  fLen_t, fLen_l, fLen_s, fInt_i, fInt_b, fTup_l, fTup_t, fList_l, fList_t, fMax2_i, fMin2_i, fAbs_i, isi_int_int, isi_int_bool, isi_int_str, isi_int_tup, isi_int_lst, isi_bl_int, isi_bl_bool, isi_bl_str, isi_bl_tup, isi_str_int, isi_str_bool, isi_str_str, isi_str_tup, isi_tup_int, isi_tup_bool, isi_tup_str, isi_tup_tup, isi_lst_int, isi_lst_bool, isi_lst_str, isi_lst_tup, isi_lst_lst, isi_non_int, isi_non_bool, isi_non_str, isi_non_tup, items_t, items_l,
  List.getElem?_cons_zero, List.getElem?_cons_succ, List.set_cons_zero, List.set_cons_succ, List.map_cons, List.map_nil, List.length_cons, List.length_nil, List.cons_append, List.nil_append, List.append_nil, List.replicate_succ, List.replicate_zero, Nat.reduceAdd, Nat.reduceSub, List.head?_cons, List.tail_cons, List.take_succ_cons, List.take_zero, List.take_nil,
  Option.some.injEq, Option.map_some, Option.map_none, exists_eq_left', exists_eq_left, Rv.d.injEq, Rv.o.injEq, D.int.injEq, D.bl.injEq, D.str.injEq, D.tup.injEq, D.lst.injEq, MO.lst.injEq, List.cons.injEq, and_true, true_and, and_assoc, exists_and_left, decide_eq_true_eq, if_true, Bool.true_eq_false, Bool.false_eq_true, if_false, reduceIte, Bool.not_true, Bool.not_false, eq_self, exists_const, List.filterMap_cons_some, List.filterMap_nil, List.filterMap_cons, and_self, CMul_iff, or_true, true_or, Int.reduceLT, Int.reduceLE, Int.reduceToNat, Int.reduceNeg, Int.reduceSub, Int.reduceAdd, Int.reducePow, Nat.reducePow, Int.reduceMul, ixN_def, Int.cast_ofNat_Int, Int.reduceEq, decide_true, decide_false, dMul_i, dPow_i, strD, reduceCtorEq, ite_true, ite_false, Nat.reduceLT, Nat.reduceLeDiff, Int.reduceAbs, false_and, and_false, or_false, false_or, exists_false, lo_cons, f1, f2, f3, f4, f5, z0]
      rw [if_pos (by omega)]
      simp only [sSeq, sNil, sIf, sSet, sAsg, sPar, sPar3, sRet, sRetN, sExpr, sBreak, sCont, sSetIx, wVar, wC, wOp, wChain, wTb, wAnd, wOr, wNotT, wAndV, wOrV, wNotV, wIf, wNil, wCons, wTup, wLst, wLstO, wSl, wNoPart, wPart, wCB, wNeg, wOrT, wTruth, wJoin, wLc, sFor, wipeE, wKw, wYes, wCall, wCallO, wApp, iL, iT, iR1, iR2, iZ, iS, gN, gsNil, gsCons, gTn, endsOf, retR_d, retR_o, sFrz, frz_d, frz_o0, frz_o1, frz_o10, tru_l, tru_t, tru_b, tru_i, tru_n, List.eraseIdx_cons_zero, List.eraseIdx_cons_succ, exists_eq', exists_eq, shf_d, bck_d, toC_nil, toC_d, toC_o, ds_nil, ds_cons, dats_nil, dats_d, dat_d, dat_o0, dat_o1, dat_o2, startE, kg, cutE, cut1_d, cut1_n, cut1_o0, cut1_o1, zipA,
  dAdd_i, dI0_i, dMod_i, dFdiv_i, dPow_i, dLt_i, dLe_i, dGt_i, dGe_i, dLt_s, dLe_s, dGt_s, dGe_s, dEq_i, dEq_s, dEq_b, dEq_is, dEq_si, dEq_ni, dEq_in, dEq_sn, dEq_ns, dNe_i, dNe_s, dNe_b, dNe_is, dNe_si, dNe_ni, dNe_in, dIs_b, dIs_n, dIsNot_b, dIsNot_n, dIx_l, dIx_t, dSl_l, dSl_t, dEq_ti, dEq_li, D.isN, atI_0, atI_1, atI_2, atI_3, atI_4, atI_5, atI_map, map_int_inj, map_str_inj,
  fLen_t, fLen_l, fLen_s, fInt_i, fInt_b, fTup_l, fTup_t, fList_l, fList_t, fMax2_i, fMin2_i, fAbs_i, isi_int_int, isi_int_bool, isi_int_str, isi_int_tup, isi_int_lst, isi_bl_int, isi_bl_bool, isi_bl_str, isi_bl_tup, isi_str_int, isi_str_bool, isi_str_str, isi_str_tup, isi_tup_int, isi_tup_bool, isi_tup_str, isi_tup_tup, isi_lst_int, isi_lst_bool, isi_lst_str, isi_lst_tup, isi_lst_lst, isi_non_int, isi_non_bool, isi_non_str, isi_non_tup, items_t, items_l,
  List.getElem?_cons_zero, List.getElem?_cons_succ, List.set_cons_zero, List.set_cons_succ, List.map_cons, List.map_nil, List.length_cons, List.length_nil, List.cons_append, List.nil_append, List.append_nil, List.replicate_succ, List.replicate_zero, Nat.reduceAdd, Nat.reduceSub, List.head?_cons, List.tail_cons, List.take_succ_cons, List.take_zero, List.take_nil,
  Option.some.injEq, Option.map_some, Option.map_none, exists_eq_left', exists_eq_left, Rv.d.injEq, Rv.o.injEq, D.int.injEq, D.bl.injEq, D.str.injEq, D.tup.injEq, D.lst.injEq, MO.lst.injEq, List.cons.injEq, and_true, true_and, and_assoc, exists_and_left, decide_eq_true_eq, if_true, Bool.true_eq_false, Bool.false_eq_true, if_false, reduceIte, Bool.not_true, Bool.not_false, eq_self, exists_const, List.filterMap_cons_some, List.filterMap_nil, List.filterMap_cons, and_self, CMul_iff, or_true, true_or, Int.reduceLT, Int.reduceLE, Int.reduceToNat, Int.reduceNeg, Int.reduceSub, Int.reduceAdd, Int.reducePow, Nat.reducePow, Int.reduceMul, ixN_def, Int.cast_ofNat_Int, Int.reduceEq, decide_true, decide_false, dMul_i, dPow_i, strD, reduceCtorEq, ite_true, ite_false, Nat.reduceLT, Nat.reduceLeDiff, Int.reduceAbs, false_and, and_false, or_false, false_or, exists_false, lo_nil, lo_cons, f1, f2, f3, f4, f5, z0]
      refine ⟨x :: one, rfl, rfl, by omega, ?_⟩
      simp only [sSeq, sNil, sIf, sSet, sAsg, sPar, sPar3, sRet, sRetN, sExpr, sBreak, sCont, sSetIx, wVar, wC, wOp, wChain, wTb, wAnd, wOr, wNotT, wAndV, wOrV, wNotV, wIf, wNil, wCons, wTup, wLst, wLstO, wSl, wNoPart, wPart, wCB, wNeg, wOrT, wTruth, wJoin, wLc, sFor, wipeE, wKw, wYes, wCall, wCallO, wApp, iL, iT, iR1, iR2, iZ, iS, gN, gsNil, gsCons, gTn, endsOf, retR_d, retR_o, sFrz, frz_d, frz_o0, frz_o1, frz_o10, tru_l, tru_t, tru_b, tru_i, tru_n, List.eraseIdx_cons_zero, List.eraseIdx_cons_succ, exists_eq', exists_eq, shf_d, bck_d, toC_nil, toC_d, toC_o, ds_nil, ds_cons, dats_nil, dats_d, dat_d, dat_o0, dat_o1, dat_o2, startE, kg, cutE, cut1_d, cut1_n, cut1_o0, cut1_o1, zipA,
  dAdd_i, dI0_i, dMod_i, dFdiv_i, dPow_i, dLt_i, dLe_i, dGt_i, dGe_i, dLt_s, dLe_s, dGt_s, dGe_s, dEq_i, dEq_s, dEq_b, dEq_is, dEq_si, dEq_ni, dEq_in, dEq_sn, dEq_ns, dNe_i, dNe_s, dNe_b, dNe_is, dNe_si, dNe_ni, dNe_in, dIs_b, dIs_n, dIsNot_b, dIsNot_n, dIx_l, dIx_t, dSl_l, dSl_t, dEq_ti, dEq_li, D.isN, atI_0, atI_1, atI_2, atI_3, atI_4, atI_5, atI_map, map_int_inj, map_str_inj,
  fLen_t, fLen_l, fLen_s, fInt_i, fInt_b, fTup_l, fTup_t, fList_l, fList_t, fMax2_i, fMin2_i, fAbs_i, isi_int_int, isi_int_bool, isi_int_str, isi_int_tup, isi_int_lst, isi_bl_int, isi_bl_bool, isi_bl_str, isi_bl_tup, isi_str_int, isi_str_bool, isi_str_str, isi_str_tup, isi_tup_int, isi_tup_bool, isi_tup_str, isi_tup_tup, isi_lst_int, isi_lst_bool, isi_lst_str, isi_lst_tup, isi_lst_lst, isi_non_int, isi_non_bool, isi_non_str, isi_non_tup, items_t, items_l,
  List.getElem?_cons_zero, List.getElem?_cons_succ, List.set_cons_zero, List.set_cons_succ, List.map_cons, List.map_nil, List.length_cons, List.length_nil, List.cons_append, List.nil_append, List.append_nil, List.replicate_succ, List.replicate_zero, Nat.reduceAdd, Nat.reduceSub, List.head?_cons, List.tail_cons, List.take_succ_cons, List.take_zero, List.take_nil,
  Option.some.injEq, Option.map_some, Option.map_none, exists_eq_left', exists_eq_left, Rv.d.injEq, Rv.o.injEq, D.int.injEq, D.bl.injEq, D.str.injEq, D.tup.injEq, D.lst.injEq, MO.lst.injEq, List.cons.injEq, and_true, true_and, and_assoc, exists_and_left, decide_eq_true_eq, if_true, Bool.true_eq_false, Bool.false_eq_true, if_false, reduceIte, Bool.not_true, Bool.not_false, eq_self, exists_const, List.filterMap_cons_some, List.filterMap_nil, List.filterMap_cons, and_self, CMul_iff, or_true, true_or, Int.reduceLT, Int.reduceLE, Int.reduceToNat, Int.reduceNeg, Int.reduceSub, Int.reduceAdd, Int.reducePow, Nat.reducePow, Int.reduceMul, ixN_def, Int.cast_ofNat_Int, Int.reduceEq, decide_true, decide_false, dMul_i, dPow_i, strD, reduceCtorEq, ite_true, ite_false, Nat.reduceLT, Nat.reduceLeDiff, Int.reduceAbs, false_and, and_false, or_false, false_or, exists_false, c2, f4, z0]
      refine ⟨bs, rfl, rfl, by omega, ?_⟩
      simp only [sSeq, sNil, sIf, sSet, sAsg, sPar, sPar3, sRet, sRetN, sExpr, sBreak, sCont, sSetIx, wVar, wC, wOp, wChain, wTb, wAnd, wOr, wNotT, wAndV, wOrV, wNotV, wIf, wNil, wCons, wTup, wLst, wLstO, wSl, wNoPart, wPart, wCB, wNeg, wOrT, wTruth, wJoin, wLc, sFor, wipeE, wKw, wYes, wCall, wCallO, wApp, iL, iT, iR1, iR2, iZ, iS, gN, gsNil, gsCons, gTn, endsOf, retR_d, retR_o, sFrz, frz_d, frz_o0, frz_o1, frz_o10, tru_l, tru_t, tru_b, tru_i, tru_n, List.eraseIdx_cons_zero, List.eraseIdx_cons_succ, exists_eq', exists_eq, shf_d, bck_d, toC_nil, toC_d, toC_o, ds_nil, ds_cons, dats_nil, dats_d, dat_d, dat_o0, dat_o1, dat_o2, startE, kg, cutE, cut1_d, cut1_n, cut1_o0, cut1_o1, zipA,
  dAdd_i, dI0_i, dMod_i, dFdiv_i, dPow_i, dLt_i, dLe_i, dGt_i, dGe_i, dLt_s, dLe_s, dGt_s, dGe_s, dEq_i, dEq_s, dEq_b, dEq_is, dEq_si, dEq_ni, dEq_in, dEq_sn, dEq_ns, dNe_i, dNe_s, dNe_b, dNe_is, dNe_si, dNe_ni, dNe_in, dIs_b, dIs_n, dIsNot_b, dIsNot_n, dIx_l, dIx_t, dSl_l, dSl_t, dEq_ti, dEq_li, D.isN, atI_0, atI_1, atI_2, atI_3, atI_4, atI_5, atI_map, map_int_inj, map_str_inj,
  fLen_t, fLen_l, fLen_s, fInt_i, fInt_b, fTup_l, fTup_t, fList_l, fList_t, fMax2_i, fMin2_i, fAbs_i, isi_int_int, isi_int_bool, isi_int_str, isi_int_tup, isi_int_lst, isi_bl_int, isi_bl_bool, isi_bl_str, isi_bl_tup, isi_str_int, isi_str_bool, isi_str_str, isi_str_tup, isi_tup_int, isi_tup_bool, isi_tup_str, isi_tup_tup, isi_lst_int, isi_lst_bool, isi_lst_str, isi_lst_tup, isi_lst_lst, isi_non_int, isi_non_bool, isi_non_str, isi_non_tup, items_t, items_l,
  List.getElem?_cons_zero, List.getElem?_cons_succ, List.set_cons_zero, List.set_cons_succ, List.map_cons, List.map_nil, List.length_cons, List.length_nil, List.cons_append, List.nil_append, List.append_nil, List.replicate_succ, List.replicate_zero, Nat.reduceAdd, Nat.reduceSub, List.head?_cons, List.tail_cons, List.take_succ_cons, List.take_zero, List.take_nil,
  Option.some.injEq, Option.map_some, Option.map_none, exists_eq_left', exists_eq_left, Rv.d.injEq, Rv.o.injEq, D.int.injEq, D.bl.injEq, D.str.injEq, D.tup.injEq, D.lst.injEq, MO.lst.injEq, List.cons.injEq, and_true, true_and, and_assoc, exists_and_left, decide_eq_true_eq, if_true, Bool.true_eq_false, Bool.false_eq_true, if_false, reduceIte, Bool.not_true, Bool.not_false, eq_self, exists_const, List.filterMap_cons_some, List.filterMap_nil, List.filterMap_cons, and_self, CMul_iff, or_true, true_or, Int.reduceLT, Int.reduceLE, Int.reduceToNat, Int.reduceNeg, Int.reduceSub, Int.reduceAdd, Int.reducePow, Nat.reducePow, Int.reduceMul, ixN_def, Int.cast_ofNat_Int, Int.reduceEq, decide_true, decide_false, dMul_i, dPow_i, strD, reduceCtorEq, ite_true, ite_false, Nat.reduceLT, Nat.reduceLeDiff, Int.reduceAbs, false_and, and_false, or_false, false_or, exists_false, c1, f4, z0]
      refine ⟨n + 402, t3, bs, rfl, rfl, ht3, by omega, g1, by omega, fun y hy => ?_, fun t4 ht4 => ?_⟩
      · rcases List.mem_append.mp (g2.mem_iff.mp hy) with hy | hy
        · exact r1 y hy
        · exact r2 y hy
      · simp only [sSeq, sNil, sIf, sSet, sAsg, sPar, sPar3, sRet, sRetN, sExpr, sBreak, sCont, sSetIx, wVar, wC, wOp, wChain, wTb, wAnd, wOr, wNotT, wAndV, wOrV, wNotV, wIf, wNil, wCons, wTup, wLst, wLstO, wSl, wNoPart, wPart, wCB, wNeg, wOrT, wTruth, wJoin, wLc, sFor, wipeE, wKw, wYes, wCall, wCallO, wApp, iL, iT, iR1, iR2, iZ, iS, gN, gsNil, gsCons, gTn, endsOf, retR_d, retR_o, sFrz, frz_d, frz_o0, frz_o1, frz_o10, tru_l, tru_t, tru_b, tru_i, tru_n, List.eraseIdx_cons_zero, List.eraseIdx_cons_succ, exists_eq', exists_eq, shf_d, bck_d, toC_nil, toC_d, toC_o, ds_nil, ds_cons, dats_nil, dats_d, dat_d, dat_o0, dat_o1, dat_o2, startE, kg, cutE, cut1_d, cut1_n, cut1_o0, cut1_o1, zipA,
  dAdd_i, dI0_i, dMod_i, dFdiv_i, dPow_i, dLt_i, dLe_i, dGt_i, dGe_i, dLt_s, dLe_s, dGt_s, dGe_s, dEq_i, dEq_s, dEq_b, dEq_is, dEq_si, dEq_ni, dEq_in, dEq_sn, dEq_ns, dNe_i, dNe_s, dNe_b, dNe_is, dNe_si, dNe_ni, dNe_in, dIs_b, dIs_n, dIsNot_b, dIsNot_n, dIx_l, dIx_t, dSl_l, dSl_t, dEq_ti, dEq_li, D.isN, atI_0, atI_1, atI_2, atI_3, atI_4, atI_5, atI_map, map_int_inj, map_str_inj,
  fLen_t, fLen_l, fLen_s, fInt_i, fInt_b, fTup_l, fTup_t, fList_l, fList_t, fMax2_i, fMin2_i, fAbs_i, isi_int_int, isi_int_bool, isi_int_str, isi_int_tup, isi_int_lst, isi_bl_int, isi_bl_bool, isi_bl_str, isi_bl_tup, isi_str_int, isi_str_bool, isi_str_str, isi_str_tup, isi_tup_int, isi_tup_bool, isi_tup_str, isi_tup_tup, isi_lst_int, isi_lst_bool, isi_lst_str, isi_lst_tup, isi_lst_lst, isi_non_int, isi_non_bool, isi_non_str, isi_non_tup, items_t, items_l,
  List.getElem?_cons_zero, List.getElem?_cons_succ, List.set_cons_zero, List.set_cons_succ, List.map_cons, List.map_nil, List.length_cons, List.length_nil, List.cons_append, List.nil_append, List.append_nil, List.replicate_succ, List.replicate_zero, Nat.reduceAdd, Nat.reduceSub, List.head?_cons, List.tail_cons, List.take_succ_cons, List.take_zero, List.take_nil,
  Option.some.injEq, Option.map_some, Option.map_none, exists_eq_left', exists_eq_left, Rv.d.injEq, Rv.o.injEq, D.int.injEq, D.bl.injEq, D.str.injEq, D.tup.injEq, D.lst.injEq, MO.lst.injEq, List.cons.injEq, and_true, true_and, and_assoc, exists_and_left, decide_eq_true_eq, if_true, Bool.true_eq_false, Bool.false_eq_true, if_false, reduceIte, Bool.not_true, Bool.not_false, eq_self, exists_const, List.filterMap_cons_some, List.filterMap_nil, List.filterMap_cons, and_self, CMul_iff, or_true, true_or, Int.reduceLT, Int.reduceLE, Int.reduceToNat, Int.reduceNeg, Int.reduceSub, Int.reduceAdd, Int.reducePow, Nat.reducePow, Int.reduceMul, ixN_def, Int.cast_ofNat_Int, Int.reduceEq, decide_true, decide_false, dMul_i, dPow_i, strD, reduceCtorEq, ite_true, ite_false, Nat.reduceLT, Nat.reduceLeDiff, Int.reduceAbs, false_and, and_false, or_false, false_or, exists_false]
        exact h _ ht4
end Lk00
set_option Elab.async false
set_option linter.all false
set_option maxRecDepth 100000
set_option maxHeartbeats 4000000
namespace Lk00
open PySem PySem.Spec PyProof.Rows L2 Dw
def c__law_pairs : Ct := fun rs M R => ∃ (n : Nat) (tr : MO), rs = [.o 0] ∧ M = [tr] ∧ TrayOk n tr ∧ n + 4 ≤ 1000000 ∧ ∀ tr', TrayOk (n + 4) tr' → R (.d (.bl true)) [tr']
theorem ln__law_pairs : ∀ rs M R, c__law_pairs rs M R → rs.length = 1 ∧ M.length = 1 := by
  rintro rs M R ⟨n, tr, rfl, rfl, _⟩; exact ⟨rfl, rfl⟩
set_option maxHeartbeats 8000000 in
theorem ok__law_pairs {P : Program} {w : World} {K : PySem.W.Frag} {mg : Str → Option Value} {base : Heap} (T : Tx K mg) : FnOk P w K mg base CX0 3 T.a__law_pairs T.fd__law_pairs ["tray"] (spD K c__law_pairs) := by
  refine fnD (n0 := 1) T.F__law_pairs sc__law_pairs ln__law_pairs fun cdv A outer s H E hr => ⟨_, (qss_cons (qs_par (i := 1) (j := 2) rfl sc__law_pairs.nd rfl rfl (by decide) rfl rfl (qa_cons (qe_callO 0 (ok__law_thing T) (hr.mono (by decide)) (by rfl) T.g__law_thing T.F__law_thing.kp (b__law_thing T) (qa_cons (qv 0) qa_nil)) (qa_cons (qe_callO 0 (ok__law_thing T) (hr.mono (by decide)) (by rfl) T.g__law_thing T.F__law_thing.kp (b__law_thing T) (qa_cons (qv 0) qa_nil)) qa_nil)) (by rfl)) (qss_cons (qs_set (i := 3) sc__law_pairs.nd rfl (.inl rfl) (qe_tup (qa_cons (qe_call (ok_at_most T) (hr.mono (by decide)) (by rfl) T.g_at_most T.F_at_most.kp (b_at_most T) (qa_cons (qv 1) (qa_cons (qv 2) qa_nil))) (qa_cons (qe_callK0 (ok_at_most T) (hr.mono (by decide)) (by rfl) T.g_at_most T.F_at_most.kp (kb_at_most_0_one_other T) (qk_cons (qv 2) (qk_cons (qv 1) qk_nil))) (qa_cons (qe_call (ok_at_most T) (hr.mono (by decide)) (by rfl) T.g_at_most T.F_at_most.kp (b_at_most T) (qa_cons (qv 1) (qa_cons (qv 1) qa_nil))) (qa_cons (qe_call (ok_at_most T) (hr.mono (by decide)) (by rfl) T.g_at_most T.F_at_most.kp (b_at_most T) (qa_cons (qv 1) (qa_cons qe_non qa_nil))) qa_nil)))))) (qss_cons (qs_set (i := 4) sc__law_pairs.nd rfl (.inl rfl) (qe_tup (qa_cons (qe_le (qv 1) (qv 2)) (qa_cons (qe_le (qv 2) (qv 1)) (qa_cons qe_bl (qa_cons qe_bl qa_nil)))))) (qss_cons (qs_for PassesOwn.never rfl (qi_range1 (by rfl) T.n_range (qa_cons qe_int qa_nil)) (qg_name (i := 5) sc__law_pairs.nd rfl (by first | exact .inl rfl | exact .inr rfl)) (qss_one (qs_if (qt_not (qt_val (qe_call (ok__law_same T) (hr.mono (by decide)) (by rfl) T.g__law_same T.F__law_same.kp (b__law_same T) (qa_cons (qe_ix (qv 3) (qv 5)) (qa_cons (qe_ix (qv 4) (qv 5)) qa_nil))))) (qss_one (qs_ret qe_bl)) qss_nil))) (qss_one (qs_ret (qe_and (qe_is (qe_call (ok_at_most T) (hr.mono (by decide)) (by rfl) T.g_at_most T.F_at_most.kp (b_at_most T) (qa_cons qe_non (qa_cons (qv 1) qa_nil))) qe_bl) (qe_and (qe_is (qe_call (ok_at_most T) (hr.mono (by decide)) (by rfl) T.g_at_most T.F_at_most.kp (b_at_most T) (qa_cons qe_non (qa_cons qe_non qa_nil))) qe_bl) (qe_one (qe_is (qe_callK0 (ok_at_most T) (hr.mono (by decide)) (by rfl) T.g_at_most T.F_at_most.kp (kb_at_most_0_other_one T) (qk_cons qe_int (qk_cons qe_non qk_nil))) qe_bl)))))))))), fun rs M R h => ?_⟩
  obtain ⟨n, tr, rfl, rfl, ht, hn, h⟩ := h
  simp only [sSeq, sNil, sIf, sSet, sAsg, sPar, sPar3, sRet, sRetN, sExpr, sBreak, sCont, sSetIx, wVar, wC, wOp, wChain, wTb, wAnd, wOr, wNotT, wAndV, wOrV, wNotV, wIf, wNil, wCons, wTup, wLst, wLstO, wSl, wNoPart, wPart, wCB, wNeg, wOrT, wTruth, wJoin, wLc, sFor, wipeE, wKw, wYes, wCall, wCallO, wApp, iL, iT, iR1, iR2, iZ, iS, gN, gsNil, gsCons, gTn, endsOf, retR_d, retR_o, sFrz, frz_d, frz_o0, frz_o1, frz_o10, tru_l, tru_t, tru_b, tru_i, tru_n, List.eraseIdx_cons_zero, List.eraseIdx_cons_succ, exists_eq', exists_eq, shf_d, bck_d, toC_nil, toC_d, toC_o, ds_nil, ds_cons, dats_nil, dats_d, dat_d, dat_o0, dat_o1, dat_o2, startE, kg, cutE, cut1_d, cut1_n, cut1_o0, cut1_o1, zipA,
  dAdd_i, dI0_i, dMod_i, dFdiv_i, dPow_i, dLt_i, dLe_i, dGt_i, dGe_i, dLt_s, dLe_s, dGt_s, dGe_s, dEq_i, dEq_s, dEq_b, dEq_is, dEq_si, dEq_ni, dEq_in, dEq_sn, dEq_ns, dNe_i, dNe_s, dNe_b, dNe_is, dNe_si, dNe_ni, dNe_in, dIs_b, dIs_n, dIsNot_b, dIsNot_n, dIx_l, dIx_t, dSl_l, dSl_t, dEq_ti, dEq_li, D.isN, atI_0, atI_1, atI_2, atI_3, atI_4, atI_5, atI_map, map_int_inj, map_str_inj,
  fLen_t, fLen_l, fLen_s, fInt_i, fInt_b, fTup_l, fTup_t, fList_l, fList_t, fMax2_i, fMin2_i, fAbs_i, isi_int_int, isi_int_bool, isi_int_str, isi_int_tup, isi_int_lst, isi_bl_int, isi_bl_bool, isi_bl_str, isi_bl_tup, isi_str_int, isi_str_bool, isi_str_str, isi_str_tup, isi_tup_int, isi_tup_bool, isi_tup_str, isi_tup_tup, isi_lst_int, isi_lst_bool, isi_lst_str, isi_lst_tup, isi_lst_lst, isi_non_int, isi_non_bool, isi_non_str, isi_non_tup, items_t, items_l,
  List.getElem?_cons_zero, List.getElem?_cons_succ, List.set_cons_zero, List.set_cons_succ, List.map_cons, List.map_nil, List.length_cons, List.length_nil, List.cons_append, List.nil_append, List.append_nil, List.replicate_succ, List.replicate_zero, Nat.reduceAdd, Nat.reduceSub, List.head?_cons, List.tail_cons, List.take_succ_cons, List.take_zero, List.take_nil,
  Option.some.injEq, Option.map_some, Option.map_none, exists_eq_left', exists_eq_left, Rv.d.injEq, Rv.o.injEq, D.int.injEq, D.bl.injEq, D.str.injEq, D.tup.injEq, D.lst.injEq, MO.lst.injEq, List.cons.injEq, and_true, true_and, and_assoc, exists_and_left, decide_eq_true_eq, if_true, Bool.true_eq_false, Bool.false_eq_true, if_false, reduceIte, Bool.not_true, Bool.not_false, eq_self, exists_const, List.filterMap_cons_some, List.filterMap_nil, List.filterMap_cons, and_self, CMul_iff, or_true, true_or, Int.reduceLT, Int.reduceLE, Int.reduceToNat, Int.reduceNeg, Int.reduceSub, Int.reduceAdd, Int.reducePow, Nat.reducePow, Int.reduceMul, ixN_def, Int.cast_ofNat_Int, Int.reduceEq, decide_true, decide_false, dMul_i, dPow_i, strD, reduceCtorEq, ite_true, ite_false, Nat.reduceLT, Nat.reduceLeDiff, Int.reduceAbs, false_and, and_false, or_false, false_or, exists_false]
  refine ⟨n, tr, rfl, rfl, ht, by omega, fun x t1 hx ht1 => ?_⟩
  simp only [sSeq, sNil, sIf, sSet, sAsg, sPar, sPar3, sRet, sRetN, sExpr, sBreak, sCont, sSetIx, wVar, wC, wOp, wChain, wTb, wAnd, wOr, wNotT, wAndV, wOrV, wNotV, wIf, wNil, wCons, wTup, wLst, wLstO, wSl, wNoPart, wPart, wCB, wNeg, wOrT, wTruth, wJoin, wLc, sFor, wipeE, wKw, wYes, wCall, wCallO, wApp, iL, iT, iR1, iR2, iZ, iS, gN, gsNil, gsCons, gTn, endsOf, retR_d, retR_o, sFrz, frz_d, frz_o0, frz_o1, frz_o10, tru_l, tru_t, tru_b, tru_i, tru_n, List.eraseIdx_cons_zero, List.eraseIdx_cons_succ, exists_eq', exists_eq, shf_d, bck_d, toC_nil, toC_d, toC_o, ds_nil, ds_cons, dats_nil, dats_d, dat_d, dat_o0, dat_o1, dat_o2, startE, kg, cutE, cut1_d, cut1_n, cut1_o0, cut1_o1, zipA,
  dAdd_i, dI0_i, dMod_i, dFdiv_i, dPow_i, dLt_i, dLe_i, dGt_i, dGe_i, dLt_s, dLe_s, dGt_s, dGe_s, dEq_i, dEq_s, dEq_b, dEq_is, dEq_si, dEq_ni, dEq_in, dEq_sn, dEq_ns, dNe_i, dNe_s, dNe_b, dNe_is, dNe_si, dNe_ni, dNe_in, dIs_b, dIs_n, dIsNot_b, dIsNot_n, dIx_l, dIx_t, dSl_l, dSl_t, dEq_ti, dEq_li, D.isN, atI_0, atI_1, atI_2, atI_3, atI_4, atI_5, atI_map, map_int_inj, map_str_inj,
  fLen_t, fLen_l, fLen_s, fInt_i, fInt_b, fTup_l, fTup_t, fList_l, fList_t, fMax2_i, fMin2_i, fAbs_i, isi_int_int, isi_int_bool, isi_int_str, isi_int_tup, isi_int_lst, isi_bl_int, isi_bl_bool, isi_bl_str, isi_bl_tup, isi_str_int, isi_str_bool, isi_str_str, isi_str_tup, isi_tup_int, isi_tup_bool, isi_tup_str, isi_tup_tup, isi_lst_int, isi_lst_bool, isi_lst_str, isi_lst_tup, isi_lst_lst, isi_non_int, isi_non_bool, isi_non_str, isi_non_tup, items_t, items_l,
  List.getElem?_cons_zero, List.getElem?_cons_succ, List.set_cons_zero, List.set_cons_succ, List.map_cons, List.map_nil, List.length_cons, List.length_nil, List.cons_append, List.nil_append, List.append_nil, List.replicate_succ, List.replicate_zero, Nat.reduceAdd, Nat.reduceSub, List.head?_cons, List.tail_cons, List.take_succ_cons, List.take_zero, List.take_nil,
  Option.some.injEq, Option.map_some, Option.map_none, exists_eq_left', exists_eq_left, Rv.d.injEq, Rv.o.injEq, D.int.injEq, D.bl.injEq, D.str.injEq, D.tup.injEq, D.lst.injEq, MO.lst.injEq, List.cons.injEq, and_true, true_and, and_assoc, exists_and_left, decide_eq_true_eq, if_true, Bool.true_eq_false, Bool.false_eq_true, if_false, reduceIte, Bool.not_true, Bool.not_false, eq_self, exists_const, List.filterMap_cons_some, List.filterMap_nil, List.filterMap_cons, and_self, CMul_iff, or_true, true_or, Int.reduceLT, Int.reduceLE, Int.reduceToNat, Int.reduceNeg, Int.reduceSub, Int.reduceAdd, Int.reducePow, Nat.reducePow, Int.reduceMul, ixN_def, Int.cast_ofNat_Int, Int.reduceEq, decide_true, decide_false, dMul_i, dPow_i, strD, reduceCtorEq, ite_true, ite_false, Nat.reduceLT, Nat.reduceLeDiff, Int.reduceAbs, false_and, and_false, or_false, false_or, exists_false]
  refine ⟨n + 2, t1, rfl, rfl, ht1, by omega, fun y t2 hy ht2 => ?_⟩
  simp only [sSeq, sNil, sIf, sSet, sAsg, sPar, sPar3, sRet, sRetN, sExpr, sBreak, sCont, sSetIx, wVar, wC, wOp, wChain, wTb, wAnd, wOr, wNotT, wAndV, wOrV, wNotV, wIf, wNil, wCons, wTup, wLst, wLstO, wSl, wNoPart, wPart, wCB, wNeg, wOrT, wTruth, wJoin, wLc, sFor, wipeE, wKw, wYes, wCall, wCallO, wApp, iL, iT, iR1, iR2, iZ, iS, gN, gsNil, gsCons, gTn, endsOf, retR_d, retR_o, sFrz, frz_d, frz_o0, frz_o1, frz_o10, tru_l, tru_t, tru_b, tru_i, tru_n, List.eraseIdx_cons_zero, List.eraseIdx_cons_succ, exists_eq', exists_eq, shf_d, bck_d, toC_nil, toC_d, toC_o, ds_nil, ds_cons, dats_nil, dats_d, dat_d, dat_o0, dat_o1, dat_o2, startE, kg, cutE, cut1_d, cut1_n, cut1_o0, cut1_o1, zipA,
  dAdd_i, dI0_i, dMod_i, dFdiv_i, dPow_i, dLt_i, dLe_i, dGt_i, dGe_i, dLt_s, dLe_s, dGt_s, dGe_s, dEq_i, dEq_s, dEq_b, dEq_is, dEq_si, dEq_ni, dEq_in, dEq_sn, dEq_ns, dNe_i, dNe_s, dNe_b, dNe_is, dNe_si, dNe_ni, dNe_in, dIs_b, dIs_n, dIsNot_b, dIsNot_n, dIx_l, dIx_t, dSl_l, dSl_t, dEq_ti, dEq_li, D.isN, atI_0, atI_1, atI_2, atI_3, atI_4, atI_5, atI_map, map_int_inj, map_str_inj,
  fLen_t, fLen_l, fLen_s, fInt_i, fInt_b, fTup_l, fTup_t, fList_l, fList_t, fMax2_i, fMin2_i, fAbs_i, isi_int_int, isi_int_bool, isi_int_str, isi_int_tup, isi_int_lst, isi_bl_int, isi_bl_bool, isi_bl_str, isi_bl_tup, isi_str_int, isi_str_bool, isi_str_str, isi_str_tup, isi_tup_int, isi_tup_bool, isi_tup_str, isi_tup_tup, isi_lst_int, isi_lst_bool, isi_lst_str, isi_lst_tup, isi_lst_lst, isi_non_int, isi_non_bool, isi_non_str, isi_non_tup, items_t, items_l,
  List.getElem?_cons_zero, List.getElem?_cons_succ, List.set_cons_zero, List.set_cons_succ, List.map_cons, List.map_nil, List.length_cons, List.length_nil, List.cons_append, List.nil_append, List.append_nil, List.replicate_succ, List.replicate_zero, Nat.reduceAdd, Nat.reduceSub, List.head?_cons, List.tail_cons, List.take_succ_cons, List.take_zero, List.take_nil,
  Option.some.injEq, Option.map_some, Option.map_none, exists_eq_left', exists_eq_left, Rv.d.injEq, Rv.o.injEq, D.int.injEq, D.bl.injEq, D.str.injEq, D.tup.injEq, D.lst.injEq, MO.lst.injEq, List.cons.injEq, and_true, true_and, and_assoc, exists_and_left, decide_eq_true_eq, if_true, Bool.true_eq_false, Bool.false_eq_true, if_false, reduceIte, Bool.not_true, Bool.not_false, eq_self, exists_const, List.filterMap_cons_some, List.filterMap_nil, List.filterMap_cons, and_self, CMul_iff, or_true, true_or, Int.reduceLT, Int.reduceLE, Int.reduceToNat, Int.reduceNeg, Int.reduceSub, Int.reduceAdd, Int.reducePow, Nat.reducePow, Int.reduceMul, ixN_def, Int.cast_ofNat_Int, Int.reduceEq, decide_true, decide_false, dMul_i, dPow_i, strD, reduceCtorEq, ite_true, ite_false, Nat.reduceLT, Nat.reduceLeDiff, Int.reduceAbs, false_and, and_false, or_false, false_or, exists_false, am_ii, am_in, am_ni, am_nn, show rngD 0 4 = [.int 0, .int 1, .int 2, .int 3] from rfl, Int.le_refl]
  refine ⟨sz (by decide), sz (by decide), for_cons ?_⟩
  simp only [sSeq, sNil, sIf, sSet, sAsg, sPar, sPar3, sRet, sRetN, sExpr, sBreak, sCont, sSetIx, wVar, wC, wOp, wChain, wTb, wAnd, wOr, wNotT, wAndV, wOrV, wNotV, wIf, wNil, wCons, wTup, wLst, wLstO, wSl, wNoPart, wPart, wCB, wNeg, wOrT, wTruth, wJoin, wLc, sFor, wipeE, wKw, wYes, wCall, wCallO, wApp, iL, iT, iR1, iR2, iZ, iS, gN, gsNil, gsCons, gTn, endsOf, retR_d, retR_o, sFrz, frz_d, frz_o0, frz_o1, frz_o10, tru_l, tru_t, tru_b, tru_i, tru_n, List.eraseIdx_cons_zero, List.eraseIdx_cons_succ, exists_eq', exists_eq, shf_d, bck_d, toC_nil, toC_d, toC_o, ds_nil, ds_cons, dats_nil, dats_d, dat_d, dat_o0, dat_o1, dat_o2, startE, kg, cutE, cut1_d, cut1_n, cut1_o0, cut1_o1, zipA,
  dAdd_i, dI0_i, dMod_i, dFdiv_i, dPow_i, dLt_i, dLe_i, dGt_i, dGe_i, dLt_s, dLe_s, dGt_s, dGe_s, dEq_i, dEq_s, dEq_b, dEq_is, dEq_si, dEq_ni, dEq_in, dEq_sn, dEq_ns, dNe_i, dNe_s, dNe_b, dNe_is, dNe_si, dNe_ni, dNe_in, dIs_b, dIs_n, dIsNot_b, dIsNot_n, dIx_l, dIx_t, dSl_l, dSl_t, dEq_ti, dEq_li, D.isN, atI_0, atI_1, atI_2, atI_3, atI_4, atI_5, atI_map, map_int_inj, map_str_inj,
  fLen_t, fLen_l, fLen_s, fInt_i, fInt_b, fTup_l, fTup_t, fList_l, fList_t, fMax2_i, fMin2_i, fAbs_i, isi_int_int, isi_int_bool, isi_int_str, isi_int_tup, isi_int_lst, isi_bl_int, isi_bl_bool, isi_bl_str, isi_bl_tup, isi_str_int, isi_str_bool, isi_str_str, isi_str_tup, isi_tup_int, isi_tup_bool, isi_tup_str, isi_tup_tup, isi_lst_int, isi_lst_bool, isi_lst_str, isi_lst_tup, isi_lst_lst, isi_non_int, isi_non_bool, isi_non_str, isi_non_tup, items_t, items_l,
  List.getElem?_cons_zero, List.getElem?_cons_succ, List.set_cons_zero, List.set_cons_succ, List.map_cons, List.map_nil, List.length_cons, List.length_nil, List.cons_append, List.nil_append, List.append_nil, List.replicate_succ, List.replicate_zero, Nat.reduceAdd, Nat.reduceSub, List.head?_cons, List.tail_cons, List.take_succ_cons, List.take_zero, List.take_nil,
  Option.some.injEq, Option.map_some, Option.map_none, exists_eq_left', exists_eq_left, Rv.d.injEq, Rv.o.injEq, D.int.injEq, D.bl.injEq, D.str.injEq, D.tup.injEq, D.lst.injEq, MO.lst.injEq, List.cons.injEq, and_true, true_and, and_assoc, exists_and_left, decide_eq_true_eq, if_true, Bool.true_eq_false, Bool.false_eq_true, if_false, reduceIte, Bool.not_true, Bool.not_false, eq_self, exists_const, List.filterMap_cons_some, List.filterMap_nil, List.filterMap_cons, and_self, CMul_iff, or_true, true_or, Int.reduceLT, Int.reduceLE, Int.reduceToNat, Int.reduceNeg, Int.reduceSub, Int.reduceAdd, Int.reducePow, Nat.reducePow, Int.reduceMul, ixN_def, Int.cast_ofNat_Int, Int.reduceEq, decide_true, decide_false, dMul_i, dPow_i, strD, reduceCtorEq, ite_true, ite_false, Nat.reduceLT, Nat.reduceLeDiff, Int.reduceAbs, false_and, and_false, or_false, false_or, exists_false, c__law_same]
  refine ⟨same_b _, for_cons ?_⟩
  simp only [sSeq, sNil, sIf, sSet, sAsg, sPar, sPar3, sRet, sRetN, sExpr, sBreak, sCont, sSetIx, wVar, wC, wOp, wChain, wTb, wAnd, wOr, wNotT, wAndV, wOrV, wNotV, wIf, wNil, wCons, wTup, wLst, wLstO, wSl, wNoPart, wPart, wCB, wNeg, wOrT, wTruth, wJoin, wLc, sFor, wipeE, wKw, wYes, wCall, wCallO, wApp, iL, iT, iR1, iR2, iZ, iS, gN, gsNil, gsCons, gTn, endsOf, retR_d, retR_o, sFrz, frz_d, frz_o0, frz_o1, frz_o10, tru_l, tru_t, tru_b, tru_i, tru_n, List.eraseIdx_cons_zero, List.eraseIdx_cons_succ, exists_eq', exists_eq, shf_d, bck_d, toC_nil, toC_d, toC_o, ds_nil, ds_cons, dats_nil, dats_d, dat_d, dat_o0, dat_o1, dat_o2, startE, kg, cutE, cut1_d, cut1_n, cut1_o0, cut1_o1, zipA,
  dAdd_i, dI0_i, dMod_i, dFdiv_i, dPow_i, dLt_i, dLe_i, dGt_i, dGe_i, dLt_s, dLe_s, dGt_s, dGe_s, dEq_i, dEq_s, dEq_b, dEq_is, dEq_si, dEq_ni, dEq_in, dEq_sn, dEq_ns, dNe_i, dNe_s, dNe_b, dNe_is, dNe_si, dNe_ni, dNe_in, dIs_b, dIs_n, dIsNot_b, dIsNot_n, dIx_l, dIx_t, dSl_l, dSl_t, dEq_ti, dEq_li, D.isN, atI_0, atI_1, atI_2, atI_3, atI_4, atI_5, atI_map, map_int_inj, map_str_inj,
  fLen_t, fLen_l, fLen_s, fInt_i, fInt_b, fTup_l, fTup_t, fList_l, fList_t, fMax2_i, fMin2_i, fAbs_i, isi_int_int, isi_int_bool, isi_int_str, isi_int_tup, isi_int_lst, isi_bl_int, isi_bl_bool, isi_bl_str, isi_bl_tup, isi_str_int, isi_str_bool, isi_str_str, isi_str_tup, isi_tup_int, isi_tup_bool, isi_tup_str, isi_tup_tup, isi_lst_int, isi_lst_bool, isi_lst_str, isi_lst_tup, isi_lst_lst, isi_non_int, isi_non_bool, isi_non_str, isi_non_tup, items_t, items_l,
  List.getElem?_cons_zero, List.getElem?_cons_succ, List.set_cons_zero, List.set_cons_succ, List.map_cons, List.map_nil, List.length_cons, List.length_nil, List.cons_append, List.nil_append, List.append_nil, List.replicate_succ, List.replicate_zero, Nat.reduceAdd, Nat.reduceSub, List.head?_cons, List.tail_cons, List.take_succ_cons, List.take_zero, List.take_nil,
  Option.some.injEq, Option.map_some, Option.map_none, exists_eq_left', exists_eq_left, Rv.d.injEq, Rv.o.injEq, D.int.injEq, D.bl.injEq, D.str.injEq, D.tup.injEq, D.lst.injEq, MO.lst.injEq, List.cons.injEq, and_true, true_and, and_assoc, exists_and_left, decide_eq_true_eq, if_true, Bool.true_eq_false, Bool.false_eq_true, if_false, reduceIte, Bool.not_true, Bool.not_false, eq_self, exists_const, List.filterMap_cons_some, List.filterMap_nil, List.filterMap_cons, and_self, CMul_iff, or_true, true_or, Int.reduceLT, Int.reduceLE, Int.reduceToNat, Int.reduceNeg, Int.reduceSub, Int.reduceAdd, Int.reducePow, Nat.reducePow, Int.reduceMul, ixN_def, Int.cast_ofNat_Int, Int.reduceEq, decide_true, decide_false, dMul_i, dPow_i, strD, reduceCtorEq, ite_true, ite_false, Nat.reduceLT, Nat.reduceLeDiff, Int.reduceAbs, false_and, and_false, or_false, false_or, exists_false, c__law_same]
  refine ⟨same_b _, for_cons ?_⟩
  simp only [sSeq, sNil, sIf, sSet, sAsg, sPar, sPar3, sRet, sRetN, sExpr, sBreak, sCont, sSetIx, wVar, wC, wOp, wChain, wTb, wAnd, wOr, wNotT, wAndV, wOrV, wNotV, wIf, wNil, wCons, wTup, wLst, wLstO, wSl, wNoPart, wPart, wCB, wNeg, wOrT, wTruth, wJoin, wLc, sFor, wipeE, wKw, wYes, wCall, wCallO, wApp, iL, iT, iR1, iR2, iZ, iS, gN, gsNil, gsCons, gTn, endsOf, retR_d, retR_o, sFrz, frz_d, frz_o0, frz_o1, frz_o10, tru_l, tru_t, tru_b, tru_i, tru_n, List.eraseIdx_cons_zero, List.eraseIdx_cons_succ, exists_eq', exists_eq, shf_d, bck_d, toC_nil, toC_d, toC_o, ds_nil, ds_cons, dats_nil, dats_d, dat_d, dat_o0, dat_o1, dat_o2, startE, kg, cutE, cut1_d, cut1_n, cut1_o0, cut1_o1, zipA,
  dAdd_i, dI0_i, dMod_i, dFdiv_i, dPow_i, dLt_i, dLe_i, dGt_i, dGe_i, dLt_s, dLe_s, dGt_s, dGe_s, dEq_i, dEq_s, dEq_b, dEq_is, dEq_si, dEq_ni, dEq_in, dEq_sn, dEq_ns, dNe_i, dNe_s, dNe_b, dNe_is, dNe_si, dNe_ni, dNe_in, dIs_b, dIs_n, dIsNot_b, dIsNot_n, dIx_l, dIx_t, dSl_l, dSl_t, dEq_ti, dEq_li, D.isN, atI_0, atI_1, atI_2, atI_3, atI_4, atI_5, atI_map, map_int_inj, map_str_inj,
  fLen_t, fLen_l, fLen_s, fInt_i, fInt_b, fTup_l, fTup_t, fList_l, fList_t, fMax2_i, fMin2_i, fAbs_i, isi_int_int, isi_int_bool, isi_int_str, isi_int_tup, isi_int_lst, isi_bl_int, isi_bl_bool, isi_bl_str, isi_bl_tup, isi_str_int, isi_str_bool, isi_str_str, isi_str_tup, isi_tup_int, isi_tup_bool, isi_tup_str, isi_tup_tup, isi_lst_int, isi_lst_bool, isi_lst_str, isi_lst_tup, isi_lst_lst, isi_non_int, isi_non_bool, isi_non_str, isi_non_tup, items_t, items_l,
  List.getElem?_cons_zero, List.getElem?_cons_succ, List.set_cons_zero, List.set_cons_succ, List.map_cons, List.map_nil, List.length_cons, List.length_nil, List.cons_append, List.nil_append, List.append_nil, List.replicate_succ, List.replicate_zero, Nat.reduceAdd, Nat.reduceSub, List.head?_cons, List.tail_cons, List.take_succ_cons, List.take_zero, List.take_nil,
  Option.some.injEq, Option.map_some, Option.map_none, exists_eq_left', exists_eq_left, Rv.d.injEq, Rv.o.injEq, D.int.injEq, D.bl.injEq, D.str.injEq, D.tup.injEq, D.lst.injEq, MO.lst.injEq, List.cons.injEq, and_true, true_and, and_assoc, exists_and_left, decide_eq_true_eq, if_true, Bool.true_eq_false, Bool.false_eq_true, if_false, reduceIte, Bool.not_true, Bool.not_false, eq_self, exists_const, List.filterMap_cons_some, List.filterMap_nil, List.filterMap_cons, and_self, CMul_iff, or_true, true_or, Int.reduceLT, Int.reduceLE, Int.reduceToNat, Int.reduceNeg, Int.reduceSub, Int.reduceAdd, Int.reducePow, Nat.reducePow, Int.reduceMul, ixN_def, Int.cast_ofNat_Int, Int.reduceEq, decide_true, decide_false, dMul_i, dPow_i, strD, reduceCtorEq, ite_true, ite_false, Nat.reduceLT, Nat.reduceLeDiff, Int.reduceAbs, false_and, and_false, or_false, false_or, exists_false, c__law_same]
  refine ⟨same_b _, for_cons ?_⟩
  simp only [sSeq, sNil, sIf, sSet, sAsg, sPar, sPar3, sRet, sRetN, sExpr, sBreak, sCont, sSetIx, wVar, wC, wOp, wChain, wTb, wAnd, wOr, wNotT, wAndV, wOrV, wNotV, wIf, wNil, wCons, wTup, wLst, wLstO, wSl, wNoPart, wPart, wCB, wNeg, wOrT, wTruth, wJoin, wLc, sFor, wipeE, wKw, wYes, wCall, wCallO, wApp, iL, iT, iR1, iR2, iZ, iS, gN, gsNil, gsCons, gTn, endsOf, retR_d, retR_o, sFrz, frz_d, frz_o0, frz_o1, frz_o10, tru_l, tru_t, tru_b, tru_i, tru_n, List.eraseIdx_cons_zero, List.eraseIdx_cons_succ, exists_eq', exists_eq, shf_d, bck_d, toC_nil, toC_d, toC_o, ds_nil, ds_cons, dats_nil, dats_d, dat_d, dat_o0, dat_o1, dat_o2, startE, kg, cutE, cut1_d, cut1_n, cut1_o0, cut1_o1, zipA,
  dAdd_i, dI0_i, dMod_i, dFdiv_i, dPow_i, dLt_i, dLe_i, dGt_i, dGe_i, dLt_s, dLe_s, dGt_s, dGe_s, dEq_i, dEq_s, dEq_b, dEq_is, dEq_si, dEq_ni, dEq_in, dEq_sn, dEq_ns, dNe_i, dNe_s, dNe_b, dNe_is, dNe_si, dNe_ni, dNe_in, dIs_b, dIs_n, dIsNot_b, dIsNot_n, dIx_l, dIx_t, dSl_l, dSl_t, dEq_ti, dEq_li, D.isN, atI_0, atI_1, atI_2, atI_3, atI_4, atI_5, atI_map, map_int_inj, map_str_inj,
  fLen_t, fLen_l, fLen_s, fInt_i, fInt_b, fTup_l, fTup_t, fList_l, fList_t, fMax2_i, fMin2_i, fAbs_i, isi_int_int, isi_int_bool, isi_int_str, isi_int_tup, isi_int_lst, isi_bl_int, isi_bl_bool, isi_bl_str, isi_bl_tup, isi_str_int, isi_str_bool, isi_str_str, isi_str_tup, isi_tup_int, isi_tup_bool, isi_tup_str, isi_tup_tup, isi_lst_int, isi_lst_bool, isi_lst_str, isi_lst_tup, isi_lst_lst, isi_non_int, isi_non_bool, isi_non_str, isi_non_tup, items_t, items_l,
  List.getElem?_cons_zero, List.getElem?_cons_succ, List.set_cons_zero, List.set_cons_succ, List.map_cons, List.map_nil, List.length_cons, List.length_nil, List.cons_append, List.nil_append, List.append_nil, List.replicate_succ, List.replicate_zero, Nat.reduceAdd, Nat.reduceSub, List.head?_cons, List.tail_cons, List.take_succ_cons, List.take_zero, List.take_nil,
  Option.some.injEq, Option.map_some, Option.map_none, exists_eq_left', exists_eq_left, Rv.d.injEq, Rv.o.injEq, D.int.injEq, D.bl.injEq, D.str.injEq, D.tup.injEq, D.lst.injEq, MO.lst.injEq, List.cons.injEq, and_true, true_and, and_assoc, exists_and_left, decide_eq_true_eq, if_true, Bool.true_eq_false, Bool.false_eq_true, if_false, reduceIte, Bool.not_true, Bool.not_false, eq_self, exists_const, List.filterMap_cons_some, List.filterMap_nil, List.filterMap_cons, and_self, CMul_iff, or_true, true_or, Int.reduceLT, Int.reduceLE, Int.reduceToNat, Int.reduceNeg, Int.reduceSub, Int.reduceAdd, Int.reducePow, Nat.reducePow, Int.reduceMul, ixN_def, Int.cast_ofNat_Int, Int.reduceEq, decide_true, decide_false, dMul_i, dPow_i, strD, reduceCtorEq, ite_true, ite_false, Nat.reduceLT, Nat.reduceLeDiff, Int.reduceAbs, false_and, and_false, or_false, false_or, exists_false, c__law_same]
  refine ⟨same_b _, for_nil ?_⟩
  simp only [sSeq, sNil, sIf, sSet, sAsg, sPar, sPar3, sRet, sRetN, sExpr, sBreak, sCont, sSetIx, wVar, wC, wOp, wChain, wTb, wAnd, wOr, wNotT, wAndV, wOrV, wNotV, wIf, wNil, wCons, wTup, wLst, wLstO, wSl, wNoPart, wPart, wCB, wNeg, wOrT, wTruth, wJoin, wLc, sFor, wipeE, wKw, wYes, wCall, wCallO, wApp, iL, iT, iR1, iR2, iZ, iS, gN, gsNil, gsCons, gTn, endsOf, retR_d, retR_o, sFrz, frz_d, frz_o0, frz_o1, frz_o10, tru_l, tru_t, tru_b, tru_i, tru_n, List.eraseIdx_cons_zero, List.eraseIdx_cons_succ, exists_eq', exists_eq, shf_d, bck_d, toC_nil, toC_d, toC_o, ds_nil, ds_cons, dats_nil, dats_d, dat_d, dat_o0, dat_o1, dat_o2, startE, kg, cutE, cut1_d, cut1_n, cut1_o0, cut1_o1, zipA,
  dAdd_i, dI0_i, dMod_i, dFdiv_i, dPow_i, dLt_i, dLe_i, dGt_i, dGe_i, dLt_s, dLe_s, dGt_s, dGe_s, dEq_i, dEq_s, dEq_b, dEq_is, dEq_si, dEq_ni, dEq_in, dEq_sn, dEq_ns, dNe_i, dNe_s, dNe_b, dNe_is, dNe_si, dNe_ni, dNe_in, dIs_b, dIs_n, dIsNot_b, dIsNot_n, dIx_l, dIx_t, dSl_l, dSl_t, dEq_ti, dEq_li, D.isN, atI_0, atI_1, atI_2, atI_3, atI_4, atI_5, atI_map, map_int_inj, map_str_inj,
  fLen_t, fLen_l, fLen_s, fInt_i, fInt_b, fTup_l, fTup_t, fList_l, fList_t, fMax2_i, fMin2_i, fAbs_i, isi_int_int, isi_int_bool, isi_int_str, isi_int_tup, isi_int_lst, isi_bl_int, isi_bl_bool, isi_bl_str, isi_bl_tup, isi_str_int, isi_str_bool, isi_str_str, isi_str_tup, isi_tup_int, isi_tup_bool, isi_tup_str, isi_tup_tup, isi_lst_int, isi_lst_bool, isi_lst_str, isi_lst_tup, isi_lst_lst, isi_non_int, isi_non_bool, isi_non_str, isi_non_tup, items_t, items_l,
  List.getElem?_cons_zero, List.getElem?_cons_succ, List.set_cons_zero, List.set_cons_succ, List.map_cons, List.map_nil, List.length_cons, List.length_nil, List.cons_append, List.nil_append, List.append_nil, List.replicate_succ, List.replicate_zero, Nat.reduceAdd, Nat.reduceSub, List.head?_cons, List.tail_cons, List.take_succ_cons, List.take_zero, List.take_nil,
  Option.some.injEq, Option.map_some, Option.map_none, exists_eq_left', exists_eq_left, Rv.d.injEq, Rv.o.injEq, D.int.injEq, D.bl.injEq, D.str.injEq, D.tup.injEq, D.lst.injEq, MO.lst.injEq, List.cons.injEq, and_true, true_and, and_assoc, exists_and_left, decide_eq_true_eq, if_true, Bool.true_eq_false, Bool.false_eq_true, if_false, reduceIte, Bool.not_true, Bool.not_false, eq_self, exists_const, List.filterMap_cons_some, List.filterMap_nil, List.filterMap_cons, and_self, CMul_iff, or_true, true_or, Int.reduceLT, Int.reduceLE, Int.reduceToNat, Int.reduceNeg, Int.reduceSub, Int.reduceAdd, Int.reducePow, Nat.reducePow, Int.reduceMul, ixN_def, Int.cast_ofNat_Int, Int.reduceEq, decide_true, decide_false, dMul_i, dPow_i, strD, reduceCtorEq, ite_true, ite_false, Nat.reduceLT, Nat.reduceLeDiff, Int.reduceAbs, false_and, and_false, or_false, false_or, exists_false, am_ii, am_in, am_ni, am_nn]
  exact h t2 (ht2.mono (by omega))
end Lk00
set_option Elab.async false
set_option linter.all false
set_option maxRecDepth 100000
set_option maxHeartbeats 4000000
namespace Lk00
open PySem PySem.Spec PyProof.Rows L2 Dw
def c_law : Ct := fun rs M R => ∃ ns : List Int, rs = [.d (.lst (ns.map .int))] ∧ M = [] ∧ ns.length ≤ 63 ∧ R (.d (.bl true)) []
theorem rep_srt (k : Nat) (x : Int) : Srt (List.replicate k x) ∧ Srt (List.replicate k x ++ List.replicate k x) ∧ putIn (List.replicate k x) x = List.replicate k x ++ [x] := by
  refine ⟨List.pairwise_replicate.mpr (.inr (Int.le_refl _)), ?_, ?_⟩
  · rw [List.replicate_append_replicate]
    exact List.pairwise_replicate.mpr (.inr (Int.le_refl _))
  · have := putIn_cut (List.replicate k x) x k (fun y hy => by
      have := List.eq_of_mem_replicate (List.mem_of_mem_take hy)
      omega) (fun y hy => by
      rw [List.getElem?_eq_none (by simp)] at hy
      cases hy)
    rw [this]; simp
theorem ln_law : ∀ rs M R, c_law rs M R → rs.length = 1 ∧ M.length = 0 := by
  rintro rs M R ⟨x, rfl, rfl, _⟩; exact ⟨rfl, rfl⟩
set_option maxHeartbeats 8000000 in
theorem ok_law {P : Program} {w : World} {K : PySem.W.Frag} {mg : Str → Option Value} {base : Heap} (T : Tx K mg) : FnOk P w K mg base CX0 5 T.a_law T.fd_law ["script"] (spD K c_law) := by
  refine fnD (n0 := 0) T.F_law sc_law ln_law fun cdv A outer s H E hr => ⟨_, (qss_cons (qs_set (i := 1) sc_law.nd rfl (.inl rfl) (qe_call (ok__law_tray T) (hr.mono (by decide)) (by rfl) T.g__law_tray T.F__law_tray.kp (b__law_tray T) (qa_cons (qv 0) qa_nil))) (qss_cons (qs_set (i := 2) sc_law.nd rfl (.inl rfl) (qe_if (qt_eq (u64 hr) (qe_callO 0 (ok__law_pick T) (hr.mono (by decide)) (by rfl) T.g__law_pick T.F__law_pick.kp (b__law_pick T) (qa_cons (qv 1) (qa_cons qe_int qa_nil))) qe_int) qe_int qe_int)) (qss_cons (qs_if (QW.t (qw_or (qt_not (qt_val (qe_callO 0 (ok__law_numbers T) (hr.mono (by decide)) (by rfl) T.g__law_numbers T.F__law_numbers.kp (b__law_numbers T) (qa_cons (qv 1) qa_nil)))) (qw_or1 (qt_not (qt_val (qe_callO 0 (ok__law_words T) (hr.mono (by decide)) (by rfl) T.g__law_words T.F__law_words.kp (b__law_words T) (qa_cons (qv 1) qa_nil))))))) (qss_one (qs_ret qe_bl)) qss_nil) (qss_cons (qs_for PassesOwn.never rfl (qi_range1 (by rfl) T.n_range (qa_cons qe_int qa_nil)) (qg_name (i := 3) sc_law.nd rfl (by first | exact .inl rfl | exact .inr rfl)) (qss_one (qs_if (QW.t (qw_or (qt_not (qt_val (qe_callO 0 (ok__law_pairs T) (hr.mono (by decide)) (by rfl) T.g__law_pairs T.F__law_pairs.kp (b__law_pairs T) (qa_cons (qv 1) qa_nil)))) (qw_or1 (qt_not (qt_val (qe_callO 0 (ok__law_rows T) (hr.mono (by decide)) (by rfl) T.g__law_rows T.F__law_rows.kp (b__law_rows T) (qa_cons (qv 1) (qa_cons (qe_if (qt_eq (u64 hr) (qv 3) qe_int) (qv 2) qe_int) qa_nil)))))))) (qss_one (qs_ret qe_bl)) qss_nil))) (qss_cons (qs_set (i := 4) sc_law.nd rfl (.inl rfl) (qe_mul (qe_tup (qa_cons (qe_callO 0 (ok__law_thing T) (hr.mono (by decide)) (by rfl) T.g__law_thing T.F__law_thing.kp (b__law_thing T) (qa_cons (qv 1) qa_nil)) qa_nil)) (qe_add qe_int (qe_callO 0 (ok__law_pick T) (hr.mono (by decide)) (by rfl) T.g__law_pick T.F__law_pick.kp (b__law_pick T) (qa_cons (qv 1) (qa_cons qe_int qa_nil)))))) (qss_cons (qs_if (QW.t (qw_or (qt_not (qt_val (qe_call (ok__law_same T) (hr.mono (by decide)) (by rfl) T.g__law_same T.F__law_same.kp (b__law_same T) (qa_cons (qe_call (ok_put_in T) (hr.mono (by decide)) (by rfl) T.g_put_in T.F_put_in.kp (b_put_in T) (qa_cons (qv 4) (qa_cons (qe_ix (qv 4) qe_int) qa_nil))) (qa_cons (qe_add (qv 4) (qe_sl (qv 4) qo_none (qo_some qe_int))) qa_nil))))) (qw_or1 (qt_not (qt_val (qe_call (ok__law_same T) (hr.mono (by decide)) (by rfl) T.g__law_same T.F__law_same.kp (b__law_same T) (qa_cons (qe_call (ok_poured T) (hr.mono (by decide)) (by rfl) T.g_poured T.F_poured.kp (b_poured T) (qa_cons (qv 4) (qa_cons (qv 4) qa_nil))) (qa_cons (qe_add (qv 4) (qv 4)) qa_nil)))))))) (qss_one (qs_ret qe_bl)) qss_nil) (qss_one (qs_ret (qe_and (qe_is (qe_call (ok_is_rising T) (hr.mono (by decide)) (by rfl) T.g_is_rising T.F_is_rising.kp (b_is_rising T) (qa_cons (qv 4) qa_nil)) qe_bl) (qe_and (qe_is (qe_call (ok_is_rising T) (hr.mono (by decide)) (by rfl) T.g_is_rising T.F_is_rising.kp (b_is_rising T) (qa_cons (qe_tup (qa_cons qe_int (qa_cons qe_int qa_nil))) qa_nil)) qe_bl) (qe_one (qe_is (qe_call (ok_is_rising T) (hr.mono (by decide)) (by rfl) T.g_is_rising T.F_is_rising.kp (b_is_rising T) (qa_cons (qe_tup (qa_cons qe_int (qa_cons qe_int (qa_cons qe_int qa_nil)))) qa_nil)) qe_bl)))))))))))), fun rs M R h => ?_⟩
  obtain ⟨ns, rfl, rfl, hl, h⟩ := h
  simp only [sSeq, sNil, sIf, sSet, sAsg, sPar, sPar3, sRet, sRetN, sExpr, sBreak, sCont, sSetIx, wVar, wC, wOp, wChain, wTb, wAnd, wOr, wNotT, wAndV, wOrV, wNotV, wIf, wNil, wCons, wTup, wLst, wLstO, wSl, wNoPart, wPart, wCB, wNeg, wOrT, wTruth, wJoin, wLc, sFor, wipeE, wKw, wYes, wCall, wCallO, wApp, iL, iT, iR1, iR2, iZ, iS, gN, gsNil, gsCons, gTn, endsOf, retR_d, retR_o, sFrz, frz_d, frz_o0, frz_o1, frz_o10, tru_l, tru_t, tru_b, tru_i, tru_n, List.eraseIdx_cons_zero, List.eraseIdx_cons_succ, exists_eq', exists_eq, shf_d, bck_d, toC_nil, toC_d, toC_o, ds_nil, ds_cons, dats_nil, dats_d, dat_d, dat_o0, dat_o1, dat_o2, startE, kg, cutE, cut1_d, cut1_n, cut1_o0, cut1_o1, zipA,
  dAdd_i, dI0_i, dMod_i, dFdiv_i, dPow_i, dLt_i, dLe_i, dGt_i, dGe_i, dLt_s, dLe_s, dGt_s, dGe_s, dEq_i, dEq_s, dEq_b, dEq_is, dEq_si, dEq_ni, dEq_in, dEq_sn, dEq_ns, dNe_i, dNe_s, dNe_b, dNe_is, dNe_si, dNe_ni, dNe_in, dIs_b, dIs_n, dIsNot_b, dIsNot_n, dIx_l, dIx_t, dSl_l, dSl_t, dEq_ti, dEq_li, D.isN, atI_0, atI_1, atI_2, atI_3, atI_4, atI_5, atI_map, map_int_inj, map_str_inj,
  fLen_t, fLen_l, fLen_s, fInt_i, fInt_b, fTup_l, fTup_t, fList_l, fList_t, fMax2_i, fMin2_i, fAbs_i, isi_int_int, isi_int_bool, isi_int_str, isi_int_tup, isi_int_lst, isi_bl_int, isi_bl_bool, isi_bl_str, isi_bl_tup, isi_str_int, isi_str_bool, isi_str_str, isi_str_tup, isi_tup_int, isi_tup_bool, isi_tup_str, isi_tup_tup, isi_lst_int, isi_lst_bool, isi_lst_str, isi_lst_tup, isi_lst_lst, isi_non_int, isi_non_bool, isi_non_str, isi_non_tup, items_t, items_l,
  List.getElem?_cons_zero, List.getElem?_cons_succ, List.set_cons_zero, List.set_cons_succ, List.map_cons, List.map_nil, List.length_cons, List.length_nil, List.cons_append, List.nil_append, List.append_nil, List.replicate_succ, List.replicate_zero, Nat.reduceAdd, Nat.reduceSub, List.head?_cons, List.tail_cons, List.take_succ_cons, List.take_zero, List.take_nil,
  Option.some.injEq, Option.map_some, Option.map_none, exists_eq_left', exists_eq_left, Rv.d.injEq, Rv.o.injEq, D.int.injEq, D.bl.injEq, D.str.injEq, D.tup.injEq, D.lst.injEq, MO.lst.injEq, List.cons.injEq, and_true, true_and, and_assoc, exists_and_left, decide_eq_true_eq, if_true, Bool.true_eq_false, Bool.false_eq_true, if_false, reduceIte, Bool.not_true, Bool.not_false, eq_self, exists_const, List.filterMap_cons_some, List.filterMap_nil, List.filterMap_cons, and_self, CMul_iff, or_true, true_or, Int.reduceLT, Int.reduceLE, Int.reduceToNat, Int.reduceNeg, Int.reduceSub, Int.reduceAdd, Int.reducePow, Nat.reducePow, Int.reduceMul, ixN_def, Int.cast_ofNat_Int, Int.reduceEq, decide_true, decide_false, dMul_i, dPow_i, strD, reduceCtorEq, ite_true, ite_false, Nat.reduceLT, Nat.reduceLeDiff, Int.reduceAbs, false_and, and_false, or_false, false_or, exists_false]
  refine ⟨ns, rfl, rfl, hl, fun t0 ht0 => ?_⟩
  simp only [sSeq, sNil, sIf, sSet, sAsg, sPar, sPar3, sRet, sRetN, sExpr, sBreak, sCont, sSetIx, wVar, wC, wOp, wChain, wTb, wAnd, wOr, wNotT, wAndV, wOrV, wNotV, wIf, wNil, wCons, wTup, wLst, wLstO, wSl, wNoPart, wPart, wCB, wNeg, wOrT, wTruth, wJoin, wLc, sFor, wipeE, wKw, wYes, wCall, wCallO, wApp, iL, iT, iR1, iR2, iZ, iS, gN, gsNil, gsCons, gTn, endsOf, retR_d, retR_o, sFrz, frz_d, frz_o0, frz_o1, frz_o10, tru_l, tru_t, tru_b, tru_i, tru_n, List.eraseIdx_cons_zero, List.eraseIdx_cons_succ, exists_eq', exists_eq, shf_d, bck_d, toC_nil, toC_d, toC_o, ds_nil, ds_cons, dats_nil, dats_d, dat_d, dat_o0, dat_o1, dat_o2, startE, kg, cutE, cut1_d, cut1_n, cut1_o0, cut1_o1, zipA,
  dAdd_i, dI0_i, dMod_i, dFdiv_i, dPow_i, dLt_i, dLe_i, dGt_i, dGe_i, dLt_s, dLe_s, dGt_s, dGe_s, dEq_i, dEq_s, dEq_b, dEq_is, dEq_si, dEq_ni, dEq_in, dEq_sn, dEq_ns, dNe_i, dNe_s, dNe_b, dNe_is, dNe_si, dNe_ni, dNe_in, dIs_b, dIs_n, dIsNot_b, dIsNot_n, dIx_l, dIx_t, dSl_l, dSl_t, dEq_ti, dEq_li, D.isN, atI_0, atI_1, atI_2, atI_3, atI_4, atI_5, atI_map, map_int_inj, map_str_inj,
  fLen_t, fLen_l, fLen_s, fInt_i, fInt_b, fTup_l, fTup_t, fList_l, fList_t, fMax2_i, fMin2_i, fAbs_i, isi_int_int, isi_int_bool, isi_int_str, isi_int_tup, isi_int_lst, isi_bl_int, isi_bl_bool, isi_bl_str, isi_bl_tup, isi_str_int, isi_str_bool, isi_str_str, isi_str_tup, isi_tup_int, isi_tup_bool, isi_tup_str, isi_tup_tup, isi_lst_int, isi_lst_bool, isi_lst_str, isi_lst_tup, isi_lst_lst, isi_non_int, isi_non_bool, isi_non_str, isi_non_tup, items_t, items_l,
  List.getElem?_cons_zero, List.getElem?_cons_succ, List.set_cons_zero, List.set_cons_succ, List.map_cons, List.map_nil, List.length_cons, List.length_nil, List.cons_append, List.nil_append, List.append_nil, List.replicate_succ, List.replicate_zero, Nat.reduceAdd, Nat.reduceSub, List.head?_cons, List.tail_cons, List.take_succ_cons, List.take_zero, List.take_nil,
  Option.some.injEq, Option.map_some, Option.map_none, exists_eq_left', exists_eq_left, Rv.d.injEq, Rv.o.injEq, D.int.injEq, D.bl.injEq, D.str.injEq, D.tup.injEq, D.lst.injEq, MO.lst.injEq, List.cons.injEq, and_true, true_and, and_assoc, exists_and_left, decide_eq_true_eq, if_true, Bool.true_eq_false, Bool.false_eq_true, if_false, reduceIte, Bool.not_true, Bool.not_false, eq_self, exists_const, List.filterMap_cons_some, List.filterMap_nil, List.filterMap_cons, and_self, CMul_iff, or_true, true_or, Int.reduceLT, Int.reduceLE, Int.reduceToNat, Int.reduceNeg, Int.reduceSub, Int.reduceAdd, Int.reducePow, Nat.reducePow, Int.reduceMul, ixN_def, Int.cast_ofNat_Int, Int.reduceEq, decide_true, decide_false, dMul_i, dPow_i, strD, reduceCtorEq, ite_true, ite_false, Nat.reduceLT, Nat.reduceLeDiff, Int.reduceAbs, false_and, and_false, or_false, false_or, exists_false, show shf 0 (Rv.o 0) = Rv.o 0 from rfl]
  refine ⟨0, t0, 11, rfl, rfl, ht0, by omega, by omega, fun r t1 r0 r1 ht1 => ?_⟩
  simp only [sSeq, sNil, sIf, sSet, sAsg, sPar, sPar3, sRet, sRetN, sExpr, sBreak, sCont, sSetIx, wVar, wC, wOp, wChain, wTb, wAnd, wOr, wNotT, wAndV, wOrV, wNotV, wIf, wNil, wCons, wTup, wLst, wLstO, wSl, wNoPart, wPart, wCB, wNeg, wOrT, wTruth, wJoin, wLc, sFor, wipeE, wKw, wYes, wCall, wCallO, wApp, iL, iT, iR1, iR2, iZ, iS, gN, gsNil, gsCons, gTn, endsOf, retR_d, retR_o, sFrz, frz_d, frz_o0, frz_o1, frz_o10, tru_l, tru_t, tru_b, tru_i, tru_n, List.eraseIdx_cons_zero, List.eraseIdx_cons_succ, exists_eq', exists_eq, shf_d, bck_d, toC_nil, toC_d, toC_o, ds_nil, ds_cons, dats_nil, dats_d, dat_d, dat_o0, dat_o1, dat_o2, startE, kg, cutE, cut1_d, cut1_n, cut1_o0, cut1_o1, zipA,
  dAdd_i, dI0_i, dMod_i, dFdiv_i, dPow_i, dLt_i, dLe_i, dGt_i, dGe_i, dLt_s, dLe_s, dGt_s, dGe_s, dEq_i, dEq_s, dEq_b, dEq_is, dEq_si, dEq_ni, dEq_in, dEq_sn, dEq_ns, dNe_i, dNe_s, dNe_b, dNe_is, dNe_si, dNe_ni, dNe_in, dIs_b, dIs_n, dIsNot_b, dIsNot_n, dIx_l, dIx_t, dSl_l, dSl_t, dEq_ti, dEq_li, D.isN, atI_0, atI_1, atI_2, atI_3, atI_4, atI_5, atI_map, map_int_inj, map_str_inj,
  fLen_t, fLen_l, fLen_s, fInt_i, fInt_b, fTup_l, fTup_t, fList_l, fList_t, fMax2_i, fMin2_i, fAbs_i, isi_int_int, isi_int_bool, isi_int_str, isi_int_tup, isi_int_lst, isi_bl_int, isi_bl_bool, isi_bl_str, isi_bl_tup, isi_str_int, isi_str_bool, isi_str_str, isi_str_tup, isi_tup_int, isi_tup_bool, isi_tup_str, isi_tup_tup, isi_lst_int, isi_lst_bool, isi_lst_str, isi_lst_tup, isi_lst_lst, isi_non_int, isi_non_bool, isi_non_str, isi_non_tup, items_t, items_l,
  List.getElem?_cons_zero, List.getElem?_cons_succ, List.set_cons_zero, List.set_cons_succ, List.map_cons, List.map_nil, List.length_cons, List.length_nil, List.cons_append, List.nil_append, List.append_nil, List.replicate_succ, List.replicate_zero, Nat.reduceAdd, Nat.reduceSub, List.head?_cons, List.tail_cons, List.take_succ_cons, List.take_zero, List.take_nil,
  Option.some.injEq, Option.map_some, Option.map_none, exists_eq_left', exists_eq_left, Rv.d.injEq, Rv.o.injEq, D.int.injEq, D.bl.injEq, D.str.injEq, D.tup.injEq, D.lst.injEq, MO.lst.injEq, List.cons.injEq, and_true, true_and, and_assoc, exists_and_left, decide_eq_true_eq, if_true, Bool.true_eq_false, Bool.false_eq_true, if_false, reduceIte, Bool.not_true, Bool.not_false, eq_self, exists_const, List.filterMap_cons_some, List.filterMap_nil, List.filterMap_cons, and_self, CMul_iff, or_true, true_or, Int.reduceLT, Int.reduceLE, Int.reduceToNat, Int.reduceNeg, Int.reduceSub, Int.reduceAdd, Int.reducePow, Nat.reducePow, Int.reduceMul, ixN_def, Int.cast_ofNat_Int, Int.reduceEq, decide_true, decide_false, dMul_i, dPow_i, strD, reduceCtorEq, ite_true, ite_false, Nat.reduceLT, Nat.reduceLeDiff, Int.reduceAbs, false_and, and_false, or_false, false_or, exists_false]
  by_cases e4 : r = 4
  all_goals
    first | rw [if_pos e4] | rw [if_neg e4]
    refine ⟨1, t1, rfl, rfl, ht1, by omega, fun t2 ht2 => ?_⟩
    simp only [sSeq, sNil, sIf, sSet, sAsg, sPar, sPar3, sRet, sRetN, sExpr, sBreak, sCont, sSetIx, wVar, wC, wOp, wChain, wTb, wAnd, wOr, wNotT, wAndV, wOrV, wNotV, wIf, wNil, wCons, wTup, wLst, wLstO, wSl, wNoPart, wPart, wCB, wNeg, wOrT, wTruth, wJoin, wLc, sFor, wipeE, wKw, wYes, wCall, wCallO, wApp, iL, iT, iR1, iR2, iZ, iS, gN, gsNil, gsCons, gTn, endsOf, retR_d, retR_o, sFrz, frz_d, frz_o0, frz_o1, frz_o10, tru_l, tru_t, tru_b, tru_i, tru_n, List.eraseIdx_cons_zero, List.eraseIdx_cons_succ, exists_eq', exists_eq, shf_d, bck_d, toC_nil, toC_d, toC_o, ds_nil, ds_cons, dats_nil, dats_d, dat_d, dat_o0, dat_o1, dat_o2, startE, kg, cutE, cut1_d, cut1_n, cut1_o0, cut1_o1, zipA,
  dAdd_i, dI0_i, dMod_i, dFdiv_i, dPow_i, dLt_i, dLe_i, dGt_i, dGe_i, dLt_s, dLe_s, dGt_s, dGe_s, dEq_i, dEq_s, dEq_b, dEq_is, dEq_si, dEq_ni, dEq_in, dEq_sn, dEq_ns, dNe_i, dNe_s, dNe_b, dNe_is, dNe_si, dNe_ni, dNe_in, dIs_b, dIs_n, dIsNot_b, dIsNot_n, dIx_l, dIx_t, dSl_l, dSl_t, dEq_ti, dEq_li, D.isN, atI_0, atI_1, atI_2, atI_3, atI_4, atI_5, atI_map, map_int_inj, map_str_inj,
  fLen_t, fLen_l, fLen_s, fInt_i, fInt_b, fTup_l, fTup_t, fList_l, fList_t, fMax2_i, fMin2_i, fAbs_i, isi_int_int, isi_int_bool, isi_int_str, isi_int_tup, isi_int_lst, isi_bl_int, isi_bl_bool, isi_bl_str, isi_bl_tup, isi_str_int, isi_str_bool, isi_str_str, isi_str_tup, isi_tup_int, isi_tup_bool, isi_tup_str, isi_tup_tup, isi_lst_int, isi_lst_bool, isi_lst_str, isi_lst_tup, isi_lst_lst, isi_non_int, isi_non_bool, isi_non_str, isi_non_tup, items_t, items_l,
  List.getElem?_cons_zero, List.getElem?_cons_succ, List.set_cons_zero, List.set_cons_succ, List.map_cons, List.map_nil, List.length_cons, List.length_nil, List.cons_append, List.nil_append, List.append_nil, List.replicate_succ, List.replicate_zero, Nat.reduceAdd, Nat.reduceSub, List.head?_cons, List.tail_cons, List.take_succ_cons, List.take_zero, List.take_nil,
  Option.some.injEq, Option.map_some, Option.map_none, exists_eq_left', exists_eq_left, Rv.d.injEq, Rv.o.injEq, D.int.injEq, D.bl.injEq, D.str.injEq, D.tup.injEq, D.lst.injEq, MO.lst.injEq, List.cons.injEq, and_true, true_and, and_assoc, exists_and_left, decide_eq_true_eq, if_true, Bool.true_eq_false, Bool.false_eq_true, if_false, reduceIte, Bool.not_true, Bool.not_false, eq_self, exists_const, List.filterMap_cons_some, List.filterMap_nil, List.filterMap_cons, and_self, CMul_iff, or_true, true_or, Int.reduceLT, Int.reduceLE, Int.reduceToNat, Int.reduceNeg, Int.reduceSub, Int.reduceAdd, Int.reducePow, Nat.reducePow, Int.reduceMul, ixN_def, Int.cast_ofNat_Int, Int.reduceEq, decide_true, decide_false, dMul_i, dPow_i, strD, reduceCtorEq, ite_true, ite_false, Nat.reduceLT, Nat.reduceLeDiff, Int.reduceAbs, false_and, and_false, or_false, false_or, exists_false]
    refine ⟨23, t2, rfl, rfl, ht2, by omega, fun t3 ht3 => ?_⟩
    simp only [sSeq, sNil, sIf, sSet, sAsg, sPar, sPar3, sRet, sRetN, sExpr, sBreak, sCont, sSetIx, wVar, wC, wOp, wChain, wTb, wAnd, wOr, wNotT, wAndV, wOrV, wNotV, wIf, wNil, wCons, wTup, wLst, wLstO, wSl, wNoPart, wPart, wCB, wNeg, wOrT, wTruth, wJoin, wLc, sFor, wipeE, wKw, wYes, wCall, wCallO, wApp, iL, iT, iR1, iR2, iZ, iS, gN, gsNil, gsCons, gTn, endsOf, retR_d, retR_o, sFrz, frz_d, frz_o0, frz_o1, frz_o10, tru_l, tru_t, tru_b, tru_i, tru_n, List.eraseIdx_cons_zero, List.eraseIdx_cons_succ, exists_eq', exists_eq, shf_d, bck_d, toC_nil, toC_d, toC_o, ds_nil, ds_cons, dats_nil, dats_d, dat_d, dat_o0, dat_o1, dat_o2, startE, kg, cutE, cut1_d, cut1_n, cut1_o0, cut1_o1, zipA,
  dAdd_i, dI0_i, dMod_i, dFdiv_i, dPow_i, dLt_i, dLe_i, dGt_i, dGe_i, dLt_s, dLe_s, dGt_s, dGe_s, dEq_i, dEq_s, dEq_b, dEq_is, dEq_si, dEq_ni, dEq_in, dEq_sn, dEq_ns, dNe_i, dNe_s, dNe_b, dNe_is, dNe_si, dNe_ni, dNe_in, dIs_b, dIs_n, dIsNot_b, dIsNot_n, dIx_l, dIx_t, dSl_l, dSl_t, dEq_ti, dEq_li, D.isN, atI_0, atI_1, atI_2, atI_3, atI_4, atI_5, atI_map, map_int_inj, map_str_inj,
  fLen_t, fLen_l, fLen_s, fInt_i, fInt_b, fTup_l, fTup_t, fList_l, fList_t, fMax2_i, fMin2_i, fAbs_i, isi_int_int, isi_int_bool, isi_int_str, isi_int_tup, isi_int_lst, isi_bl_int, isi_bl_bool, isi_bl_str, isi_bl_tup, isi_str_int, isi_str_bool, isi_str_str, isi_str_tup, isi_tup_int, isi_tup_bool, isi_tup_str, isi_tup_tup, isi_lst_int, isi_lst_bool, isi_lst_str, isi_lst_tup, isi_lst_lst, isi_non_int, isi_non_bool, isi_non_str, isi_non_tup, items_t, items_l,
  List.getElem?_cons_zero, List.getElem?_cons_succ, List.set_cons_zero, List.set_cons_succ, List.map_cons, List.map_nil, List.length_cons, List.length_nil, List.cons_append, List.nil_append, List.append_nil, List.replicate_succ, List.replicate_zero, Nat.reduceAdd, Nat.reduceSub, List.head?_cons, List.tail_cons, List.take_succ_cons, List.take_zero, List.take_nil,
  Option.some.injEq, Option.map_some, Option.map_none, exists_eq_left', exists_eq_left, Rv.d.injEq, Rv.o.injEq, D.int.injEq, D.bl.injEq, D.str.injEq, D.tup.injEq, D.lst.injEq, MO.lst.injEq, List.cons.injEq, and_true, true_and, and_assoc, exists_and_left, decide_eq_true_eq, if_true, Bool.true_eq_false, Bool.false_eq_true, if_false, reduceIte, Bool.not_true, Bool.not_false, eq_self, exists_const, List.filterMap_cons_some, List.filterMap_nil, List.filterMap_cons, and_self, CMul_iff, or_true, true_or, Int.reduceLT, Int.reduceLE, Int.reduceToNat, Int.reduceNeg, Int.reduceSub, Int.reduceAdd, Int.reducePow, Nat.reducePow, Int.reduceMul, ixN_def, Int.cast_ofNat_Int, Int.reduceEq, decide_true, decide_false, dMul_i, dPow_i, strD, reduceCtorEq, ite_true, ite_false, Nat.reduceLT, Nat.reduceLeDiff, Int.reduceAbs, false_and, and_false, or_false, false_or, exists_false, List.length_nil]
    refine for_0 (fun i env M => ∃ (mo : Nat) (t : MO) (e3 e4 : Option Rv), env = [some (.d (.lst (ns.map .int))), some (.o 0), some (.d (.int mo)), e3, e4] ∧ M = [t] ∧ TrayOk (123 + 408 * i) t ∧ mo ≤ 60)
      (by first | exact ⟨60, t3, _, _, rfl, rfl, ht3, by omega⟩ | exact ⟨6, t3, _, _, rfl, rfl, ht3, by omega⟩) (fun i d env M hd hI => ?_) (fun env M hI => ?_)
    · obtain ⟨mo, t, e3, e4, rfl, rfl, g1, g2⟩ := hI
      obtain ⟨hi3, rfl⟩ := rngD_get hd
      simp only [sSeq, sNil, sIf, sSet, sAsg, sPar, sPar3, sRet, sRetN, sExpr, sBreak, sCont, sSetIx, wVar, wC, wOp, wChain, wTb, wAnd, wOr, wNotT, wAndV, wOrV, wNotV, wIf, wNil, wCons, wTup, wLst, wLstO, wSl, wNoPart, wPart, wCB, wNeg, wOrT, wTruth, wJoin, wLc, sFor, wipeE, wKw, wYes, wCall, wCallO, wApp, iL, iT, iR1, iR2, iZ, iS, gN, gsNil, gsCons, gTn, endsOf, retR_d, retR_o, sFrz, frz_d, frz_o0, frz_o1, frz_o10, tru_l, tru_t, tru_b, tru_i, tru_n, List.eraseIdx_cons_zero, List.eraseIdx_cons_succ, exists_eq', exists_eq, shf_d, bck_d, toC_nil, toC_d, toC_o, ds_nil, ds_cons, dats_nil, dats_d, dat_d, dat_o0, dat_o1, dat_o2, startE, kg, cutE, cut1_d, cut1_n, cut1_o0, cut1_o1, zipA,
  dAdd_i, dI0_i, dMod_i, dFdiv_i, dPow_i, dLt_i, dLe_i, dGt_i, dGe_i, dLt_s, dLe_s, dGt_s, dGe_s, dEq_i, dEq_s, dEq_b, dEq_is, dEq_si, dEq_ni, dEq_in, dEq_sn, dEq_ns, dNe_i, dNe_s, dNe_b, dNe_is, dNe_si, dNe_ni, dNe_in, dIs_b, dIs_n, dIsNot_b, dIsNot_n, dIx_l, dIx_t, dSl_l, dSl_t, dEq_ti, dEq_li, D.isN, atI_0, atI_1, atI_2, atI_3, atI_4, atI_5, atI_map, map_int_inj, map_str_inj,
  fLen_t, fLen_l, fLen_s, fInt_i, fInt_b, fTup_l, fTup_t, fList_l, fList_t, fMax2_i, fMin2_i, fAbs_i, isi_int_int, isi_int_bool, isi_int_str, isi_int_tup, isi_int_lst, isi_bl_int, isi_bl_bool, isi_bl_str, isi_bl_tup, isi_str_int, isi_str_bool, isi_str_str, isi_str_tup, isi_tup_int, isi_tup_bool, isi_tup_str, isi_tup_tup, isi_lst_int, isi_lst_bool, isi_lst_str, isi_lst_tup, isi_lst_lst, isi_non_int, isi_non_bool, isi_non_str, isi_non_tup, items_t, items_l,
  List.getElem?_cons_zero, List.getElem?_cons_succ, List.set_cons_zero, List.set_cons_succ, List.map_cons, List.map_nil, List.length_cons, List.length_nil, List.cons_append, List.nil_append, List.append_nil, List.replicate_succ, List.replicate_zero, Nat.reduceAdd, Nat.reduceSub, List.head?_cons, List.tail_cons, List.take_succ_cons, List.take_zero, List.take_nil,
  Option.some.injEq, Option.map_some, Option.map_none, exists_eq_left', exists_eq_left, Rv.d.injEq, Rv.o.injEq, D.int.injEq, D.bl.injEq, D.str.injEq, D.tup.injEq, D.lst.injEq, MO.lst.injEq, List.cons.injEq, and_true, true_and, and_assoc, exists_and_left, decide_eq_true_eq, if_true, Bool.true_eq_false, Bool.false_eq_true, if_false, reduceIte, Bool.not_true, Bool.not_false, eq_self, exists_const, List.filterMap_cons_some, List.filterMap_nil, List.filterMap_cons, and_self, CMul_iff, or_true, true_or, Int.reduceLT, Int.reduceLE, Int.reduceToNat, Int.reduceNeg, Int.reduceSub, Int.reduceAdd, Int.reducePow, Nat.reducePow, Int.reduceMul, ixN_def, Int.cast_ofNat_Int, Int.reduceEq, decide_true, decide_false, dMul_i, dPow_i, strD, reduceCtorEq, ite_true, ite_false, Nat.reduceLT, Nat.reduceLeDiff, Int.reduceAbs, false_and, and_false, or_false, false_or, exists_false]
      refine ⟨_, t, rfl, rfl, g1, by omega, fun t4 ht4 => ?_⟩
      simp only [sSeq, sNil, sIf, sSet, sAsg, sPar, sPar3, sRet, sRetN, sExpr, sBreak, sCont, sSetIx, wVar, wC, wOp, wChain, wTb, wAnd, wOr, wNotT, wAndV, wOrV, wNotV, wIf, wNil, wCons, wTup, wLst, wLstO, wSl, wNoPart, wPart, wCB, wNeg, wOrT, wTruth, wJoin, wLc, sFor, wipeE, wKw, wYes, wCall, wCallO, wApp, iL, iT, iR1, iR2, iZ, iS, gN, gsNil, gsCons, gTn, endsOf, retR_d, retR_o, sFrz, frz_d, frz_o0, frz_o1, frz_o10, tru_l, tru_t, tru_b, tru_i, tru_n, List.eraseIdx_cons_zero, List.eraseIdx_cons_succ, exists_eq', exists_eq, shf_d, bck_d, toC_nil, toC_d, toC_o, ds_nil, ds_cons, dats_nil, dats_d, dat_d, dat_o0, dat_o1, dat_o2, startE, kg, cutE, cut1_d, cut1_n, cut1_o0, cut1_o1, zipA,
  dAdd_i, dI0_i, dMod_i, dFdiv_i, dPow_i, dLt_i, dLe_i, dGt_i, dGe_i, dLt_s, dLe_s, dGt_s, dGe_s, dEq_i, dEq_s, dEq_b, dEq_is, dEq_si, dEq_ni, dEq_in, dEq_sn, dEq_ns, dNe_i, dNe_s, dNe_b, dNe_is, dNe_si, dNe_ni, dNe_in, dIs_b, dIs_n, dIsNot_b, dIsNot_n, dIx_l, dIx_t, dSl_l, dSl_t, dEq_ti, dEq_li, D.isN, atI_0, atI_1, atI_2, atI_3, atI_4, atI_5, atI_map, map_int_inj, map_str_inj,
  fLen_t, fLen_l, fLen_s, fInt_i, fInt_b, fTup_l, fTup_t, fList_l, fList_t, fMax2_i, fMin2_i, fAbs_i, isi_int_int, isi_int_bool, isi_int_str, isi_int_tup, isi_int_lst, isi_bl_int, isi_bl_bool, isi_bl_str, isi_bl_tup, isi_str_int, isi_str_bool, isi_str_str, isi_str_tup, isi_tup_int, isi_tup_bool, isi_tup_str, isi_tup_tup, isi_lst_int, isi_lst_bool, isi_lst_str, isi_lst_tup, isi_lst_lst, isi_non_int, isi_non_bool, isi_non_str, isi_non_tup, items_t, items_l,
  List.getElem?_cons_zero, List.getElem?_cons_succ, List.set_cons_zero, List.set_cons_succ, List.map_cons, List.map_nil, List.length_cons, List.length_nil, List.cons_append, List.nil_append, List.append_nil, List.replicate_succ, List.replicate_zero, Nat.reduceAdd, Nat.reduceSub, List.head?_cons, List.tail_cons, List.take_succ_cons, List.take_zero, List.take_nil,
  Option.some.injEq, Option.map_some, Option.map_none, exists_eq_left', exists_eq_left, Rv.d.injEq, Rv.o.injEq, D.int.injEq, D.bl.injEq, D.str.injEq, D.tup.injEq, D.lst.injEq, MO.lst.injEq, List.cons.injEq, and_true, true_and, and_assoc, exists_and_left, decide_eq_true_eq, if_true, Bool.true_eq_false, Bool.false_eq_true, if_false, reduceIte, Bool.not_true, Bool.not_false, eq_self, exists_const, List.filterMap_cons_some, List.filterMap_nil, List.filterMap_cons, and_self, CMul_iff, or_true, true_or, Int.reduceLT, Int.reduceLE, Int.reduceToNat, Int.reduceNeg, Int.reduceSub, Int.reduceAdd, Int.reducePow, Nat.reducePow, Int.reduceMul, ixN_def, Int.cast_ofNat_Int, Int.reduceEq, decide_true, decide_false, dMul_i, dPow_i, strD, reduceCtorEq, ite_true, ite_false, Nat.reduceLT, Nat.reduceLeDiff, Int.reduceAbs, false_and, and_false, or_false, false_or, exists_false]
      by_cases ei : (0 : Int) + i = 0
      · rw [if_pos ei]
        refine ⟨_, t4, mo, rfl, rfl, ht4, by omega, g2, fun t5 ht5 => ?_⟩
        simp only [sSeq, sNil, sIf, sSet, sAsg, sPar, sPar3, sRet, sRetN, sExpr, sBreak, sCont, sSetIx, wVar, wC, wOp, wChain, wTb, wAnd, wOr, wNotT, wAndV, wOrV, wNotV, wIf, wNil, wCons, wTup, wLst, wLstO, wSl, wNoPart, wPart, wCB, wNeg, wOrT, wTruth, wJoin, wLc, sFor, wipeE, wKw, wYes, wCall, wCallO, wApp, iL, iT, iR1, iR2, iZ, iS, gN, gsNil, gsCons, gTn, endsOf, retR_d, retR_o, sFrz, frz_d, frz_o0, frz_o1, frz_o10, tru_l, tru_t, tru_b, tru_i, tru_n, List.eraseIdx_cons_zero, List.eraseIdx_cons_succ, exists_eq', exists_eq, shf_d, bck_d, toC_nil, toC_d, toC_o, ds_nil, ds_cons, dats_nil, dats_d, dat_d, dat_o0, dat_o1, dat_o2, startE, kg, cutE, cut1_d, cut1_n, cut1_o0, cut1_o1, zipA,
  dAdd_i, dI0_i, dMod_i, dFdiv_i, dPow_i, dLt_i, dLe_i, dGt_i, dGe_i, dLt_s, dLe_s, dGt_s, dGe_s, dEq_i, dEq_s, dEq_b, dEq_is, dEq_si, dEq_ni, dEq_in, dEq_sn, dEq_ns, dNe_i, dNe_s, dNe_b, dNe_is, dNe_si, dNe_ni, dNe_in, dIs_b, dIs_n, dIsNot_b, dIsNot_n, dIx_l, dIx_t, dSl_l, dSl_t, dEq_ti, dEq_li, D.isN, atI_0, atI_1, atI_2, atI_3, atI_4, atI_5, atI_map, map_int_inj, map_str_inj,
  fLen_t, fLen_l, fLen_s, fInt_i, fInt_b, fTup_l, fTup_t, fList_l, fList_t, fMax2_i, fMin2_i, fAbs_i, isi_int_int, isi_int_bool, isi_int_str, isi_int_tup, isi_int_lst, isi_bl_int, isi_bl_bool, isi_bl_str, isi_bl_tup, isi_str_int, isi_str_bool, isi_str_str, isi_str_tup, isi_tup_int, isi_tup_bool, isi_tup_str, isi_tup_tup, isi_lst_int, isi_lst_bool, isi_lst_str, isi_lst_tup, isi_lst_lst, isi_non_int, isi_non_bool, isi_non_str, isi_non_tup, items_t, items_l,
  List.getElem?_cons_zero, List.getElem?_cons_succ, List.set_cons_zero, List.set_cons_succ, List.map_cons, List.map_nil, List.length_cons, List.length_nil, List.cons_append, List.nil_append, List.append_nil, List.replicate_succ, List.replicate_zero, Nat.reduceAdd, Nat.reduceSub, List.head?_cons, List.tail_cons, List.take_succ_cons, List.take_zero, List.take_nil,
  Option.some.injEq, Option.map_some, Option.map_none, exists_eq_left', exists_eq_left, Rv.d.injEq, Rv.o.injEq, D.int.injEq, D.bl.injEq, D.str.injEq, D.tup.injEq, D.lst.injEq, MO.lst.injEq, List.cons.injEq, and_true, true_and, and_assoc, exists_and_left, decide_eq_true_eq, if_true, Bool.true_eq_false, Bool.false_eq_true, if_false, reduceIte, Bool.not_true, Bool.not_false, eq_self, exists_const, List.filterMap_cons_some, List.filterMap_nil, List.filterMap_cons, and_self, CMul_iff, or_true, true_or, Int.reduceLT, Int.reduceLE, Int.reduceToNat, Int.reduceNeg, Int.reduceSub, Int.reduceAdd, Int.reducePow, Nat.reducePow, Int.reduceMul, ixN_def, Int.cast_ofNat_Int, Int.reduceEq, decide_true, decide_false, dMul_i, dPow_i, strD, reduceCtorEq, ite_true, ite_false, Nat.reduceLT, Nat.reduceLeDiff, Int.reduceAbs, false_and, and_false, or_false, false_or, exists_false]
        exact ⟨mo, rfl, ht5.mono (by omega), g2⟩
      · rw [if_neg ei]
        refine ⟨_, t4, 4, rfl, rfl, ht4, by omega, by omega, fun t5 ht5 => ?_⟩
        simp only [sSeq, sNil, sIf, sSet, sAsg, sPar, sPar3, sRet, sRetN, sExpr, sBreak, sCont, sSetIx, wVar, wC, wOp, wChain, wTb, wAnd, wOr, wNotT, wAndV, wOrV, wNotV, wIf, wNil, wCons, wTup, wLst, wLstO, wSl, wNoPart, wPart, wCB, wNeg, wOrT, wTruth, wJoin, wLc, sFor, wipeE, wKw, wYes, wCall, wCallO, wApp, iL, iT, iR1, iR2, iZ, iS, gN, gsNil, gsCons, gTn, endsOf, retR_d, retR_o, sFrz, frz_d, frz_o0, frz_o1, frz_o10, tru_l, tru_t, tru_b, tru_i, tru_n, List.eraseIdx_cons_zero, List.eraseIdx_cons_succ, exists_eq', exists_eq, shf_d, bck_d, toC_nil, toC_d, toC_o, ds_nil, ds_cons, dats_nil, dats_d, dat_d, dat_o0, dat_o1, dat_o2, startE, kg, cutE, cut1_d, cut1_n, cut1_o0, cut1_o1, zipA,
  dAdd_i, dI0_i, dMod_i, dFdiv_i, dPow_i, dLt_i, dLe_i, dGt_i, dGe_i, dLt_s, dLe_s, dGt_s, dGe_s, dEq_i, dEq_s, dEq_b, dEq_is, dEq_si, dEq_ni, dEq_in, dEq_sn, dEq_ns, dNe_i, dNe_s, dNe_b, dNe_is, dNe_si, dNe_ni, dNe_in, dIs_b, dIs_n, dIsNot_b, dIsNot_n, dIx_l, dIx_t, dSl_l, dSl_t, dEq_ti, dEq_li, D.isN, atI_0, atI_1, atI_2, atI_3, atI_4, atI_5, atI_map, map_int_inj, map_str_inj,
  fLen_t, fLen_l, fLen_s, fInt_i, fInt_b, fTup_l, fTup_t, fList_l, fList_t, fMax2_i, fMin2_i, fAbs_i, isi_int_int, isi_int_bool, isi_int_str, isi_int_tup, isi_int_lst, isi_bl_int, isi_bl_bool, isi_bl_str, isi_bl_tup, isi_str_int, isi_str_bool, isi_str_str, isi_str_tup, isi_tup_int, isi_tup_bool, isi_tup_str, isi_tup_tup, isi_lst_int, isi_lst_bool, isi_lst_str, isi_lst_tup, isi_lst_lst, isi_non_int, isi_non_bool, isi_non_str, isi_non_tup, items_t, items_l,
  List.getElem?_cons_zero, List.getElem?_cons_succ, List.set_cons_zero, List.set_cons_succ, List.map_cons, List.map_nil, List.length_cons, List.length_nil, List.cons_append, List.nil_append, List.append_nil, List.replicate_succ, List.replicate_zero, Nat.reduceAdd, Nat.reduceSub, List.head?_cons, List.tail_cons, List.take_succ_cons, List.take_zero, List.take_nil,
  Option.some.injEq, Option.map_some, Option.map_none, exists_eq_left', exists_eq_left, Rv.d.injEq, Rv.o.injEq, D.int.injEq, D.bl.injEq, D.str.injEq, D.tup.injEq, D.lst.injEq, MO.lst.injEq, List.cons.injEq, and_true, true_and, and_assoc, exists_and_left, decide_eq_true_eq, if_true, Bool.true_eq_false, Bool.false_eq_true, if_false, reduceIte, Bool.not_true, Bool.not_false, eq_self, exists_const, List.filterMap_cons_some, List.filterMap_nil, List.filterMap_cons, and_self, CMul_iff, or_true, true_or, Int.reduceLT, Int.reduceLE, Int.reduceToNat, Int.reduceNeg, Int.reduceSub, Int.reduceAdd, Int.reducePow, Nat.reducePow, Int.reduceMul, ixN_def, Int.cast_ofNat_Int, Int.reduceEq, decide_true, decide_false, dMul_i, dPow_i, strD, reduceCtorEq, ite_true, ite_false, Nat.reduceLT, Nat.reduceLeDiff, Int.reduceAbs, false_and, and_false, or_false, false_or, exists_false]
        exact ⟨mo, rfl, ht5.mono (by omega), g2⟩
    · obtain ⟨mo, t, e3, e4, rfl, rfl, g1, g2⟩ := hI
      rw [rng_len] at g1
      simp only [sSeq, sNil, sIf, sSet, sAsg, sPar, sPar3, sRet, sRetN, sExpr, sBreak, sCont, sSetIx, wVar, wC, wOp, wChain, wTb, wAnd, wOr, wNotT, wAndV, wOrV, wNotV, wIf, wNil, wCons, wTup, wLst, wLstO, wSl, wNoPart, wPart, wCB, wNeg, wOrT, wTruth, wJoin, wLc, sFor, wipeE, wKw, wYes, wCall, wCallO, wApp, iL, iT, iR1, iR2, iZ, iS, gN, gsNil, gsCons, gTn, endsOf, retR_d, retR_o, sFrz, frz_d, frz_o0, frz_o1, frz_o10, tru_l, tru_t, tru_b, tru_i, tru_n, List.eraseIdx_cons_zero, List.eraseIdx_cons_succ, exists_eq', exists_eq, shf_d, bck_d, toC_nil, toC_d, toC_o, ds_nil, ds_cons, dats_nil, dats_d, dat_d, dat_o0, dat_o1, dat_o2, startE, kg, cutE, cut1_d, cut1_n, cut1_o0, cut1_o1, zipA,
  dAdd_i, dI0_i, dMod_i, dFdiv_i, dPow_i, dLt_i, dLe_i, dGt_i, dGe_i, dLt_s, dLe_s, dGt_s, dGe_s, dEq_i, dEq_s, dEq_b, dEq_is, dEq_si, dEq_ni, dEq_in, dEq_sn, dEq_ns, dNe_i, dNe_s, dNe_b, dNe_is, dNe_si, dNe_ni, dNe_in, dIs_b, dIs_n, dIsNot_b, dIsNot_n, dIx_l, dIx_t, dSl_l, dSl_t, dEq_ti, dEq_li, D.isN, atI_0, atI_1, atI_2, atI_3, atI_4, atI_5, atI_map, map_int_inj, map_str_inj,
  fLen_t, fLen_l, fLen_s, fInt_i, fInt_b, fTup_l, fTup_t, fList_l, fList_t, fMax2_i, fMin2_i, fAbs_i, isi_int_int, isi_int_bool, isi_int_str, isi_int_tup, isi_int_lst, isi_bl_int, isi_bl_bool, isi_bl_str, isi_bl_tup, isi_str_int, isi_str_bool, isi_str_str, isi_str_tup, isi_tup_int, isi_tup_bool, isi_tup_str, isi_tup_tup, isi_lst_int, isi_lst_bool, isi_lst_str, isi_lst_tup, isi_lst_lst, isi_non_int, isi_non_bool, isi_non_str, isi_non_tup, items_t, items_l,
  List.getElem?_cons_zero, List.getElem?_cons_succ, List.set_cons_zero, List.set_cons_succ, List.map_cons, List.map_nil, List.length_cons, List.length_nil, List.cons_append, List.nil_append, List.append_nil, List.replicate_succ, List.replicate_zero, Nat.reduceAdd, Nat.reduceSub, List.head?_cons, List.tail_cons, List.take_succ_cons, List.take_zero, List.take_nil,
  Option.some.injEq, Option.map_some, Option.map_none, exists_eq_left', exists_eq_left, Rv.d.injEq, Rv.o.injEq, D.int.injEq, D.bl.injEq, D.str.injEq, D.tup.injEq, D.lst.injEq, MO.lst.injEq, List.cons.injEq, and_true, true_and, and_assoc, exists_and_left, decide_eq_true_eq, if_true, Bool.true_eq_false, Bool.false_eq_true, if_false, reduceIte, Bool.not_true, Bool.not_false, eq_self, exists_const, List.filterMap_cons_some, List.filterMap_nil, List.filterMap_cons, and_self, CMul_iff, or_true, true_or, Int.reduceLT, Int.reduceLE, Int.reduceToNat, Int.reduceNeg, Int.reduceSub, Int.reduceAdd, Int.reducePow, Nat.reducePow, Int.reduceMul, ixN_def, Int.cast_ofNat_Int, Int.reduceEq, decide_true, decide_false, dMul_i, dPow_i, strD, reduceCtorEq, ite_true, ite_false, Nat.reduceLT, Nat.reduceLeDiff, Int.reduceAbs, false_and, and_false, or_false, false_or, exists_false]
      refine ⟨1347, t, rfl, rfl, g1.mono (by omega), by omega, fun x t4 hx ht4 => ?_⟩
      simp only [sSeq, sNil, sIf, sSet, sAsg, sPar, sPar3, sRet, sRetN, sExpr, sBreak, sCont, sSetIx, wVar, wC, wOp, wChain, wTb, wAnd, wOr, wNotT, wAndV, wOrV, wNotV, wIf, wNil, wCons, wTup, wLst, wLstO, wSl, wNoPart, wPart, wCB, wNeg, wOrT, wTruth, wJoin, wLc, sFor, wipeE, wKw, wYes, wCall, wCallO, wApp, iL, iT, iR1, iR2, iZ, iS, gN, gsNil, gsCons, gTn, endsOf, retR_d, retR_o, sFrz, frz_d, frz_o0, frz_o1, frz_o10, tru_l, tru_t, tru_b, tru_i, tru_n, List.eraseIdx_cons_zero, List.eraseIdx_cons_succ, exists_eq', exists_eq, shf_d, bck_d, toC_nil, toC_d, toC_o, ds_nil, ds_cons, dats_nil, dats_d, dat_d, dat_o0, dat_o1, dat_o2, startE, kg, cutE, cut1_d, cut1_n, cut1_o0, cut1_o1, zipA,
  dAdd_i, dI0_i, dMod_i, dFdiv_i, dPow_i, dLt_i, dLe_i, dGt_i, dGe_i, dLt_s, dLe_s, dGt_s, dGe_s, dEq_i, dEq_s, dEq_b, dEq_is, dEq_si, dEq_ni, dEq_in, dEq_sn, dEq_ns, dNe_i, dNe_s, dNe_b, dNe_is, dNe_si, dNe_ni, dNe_in, dIs_b, dIs_n, dIsNot_b, dIsNot_n, dIx_l, dIx_t, dSl_l, dSl_t, dEq_ti, dEq_li, D.isN, atI_0, atI_1, atI_2, atI_3, atI_4, atI_5, atI_map, map_int_inj, map_str_inj,
  fLen_t, fLen_l, fLen_s, fInt_i, fInt_b, fTup_l, fTup_t, fList_l, fList_t, fMax2_i, fMin2_i, fAbs_i, isi_int_int, isi_int_bool, isi_int_str, isi_int_tup, isi_int_lst, isi_bl_int, isi_bl_bool, isi_bl_str, isi_bl_tup, isi_str_int, isi_str_bool, isi_str_str, isi_str_tup, isi_tup_int, isi_tup_bool, isi_tup_str, isi_tup_tup, isi_lst_int, isi_lst_bool, isi_lst_str, isi_lst_tup, isi_lst_lst, isi_non_int, isi_non_bool, isi_non_str, isi_non_tup, items_t, items_l,
  List.getElem?_cons_zero, List.getElem?_cons_succ, List.set_cons_zero, List.set_cons_succ, List.map_cons, List.map_nil, List.length_cons, List.length_nil, List.cons_append, List.nil_append, List.append_nil, List.replicate_succ, List.replicate_zero, Nat.reduceAdd, Nat.reduceSub, List.head?_cons, List.tail_cons, List.take_succ_cons, List.take_zero, List.take_nil,
  Option.some.injEq, Option.map_some, Option.map_none, exists_eq_left', exists_eq_left, Rv.d.injEq, Rv.o.injEq, D.int.injEq, D.bl.injEq, D.str.injEq, D.tup.injEq, D.lst.injEq, MO.lst.injEq, List.cons.injEq, and_true, true_and, and_assoc, exists_and_left, decide_eq_true_eq, if_true, Bool.true_eq_false, Bool.false_eq_true, if_false, reduceIte, Bool.not_true, Bool.not_false, eq_self, exists_const, List.filterMap_cons_some, List.filterMap_nil, List.filterMap_cons, and_self, CMul_iff, or_true, true_or, Int.reduceLT, Int.reduceLE, Int.reduceToNat, Int.reduceNeg, Int.reduceSub, Int.reduceAdd, Int.reducePow, Nat.reducePow, Int.reduceMul, ixN_def, Int.cast_ofNat_Int, Int.reduceEq, decide_true, decide_false, dMul_i, dPow_i, strD, reduceCtorEq, ite_true, ite_false, Nat.reduceLT, Nat.reduceLeDiff, Int.reduceAbs, false_and, and_false, or_false, false_or, exists_false]
      refine ⟨sz (by decide), 1349, t4, 5, rfl, rfl, ht4, by omega, by omega, fun q t5 q0 q1 ht5 => ?_⟩
      obtain ⟨k, hk2, hk7, hL⟩ : ∃ k : Nat, 2 ≤ k ∧ k ≤ 7 ∧ dMul (.tup [.int x]) (.int (2 + q)) = some (.tup ((List.replicate k x).map .int)) := by
        refine ⟨(2 + q).toNat, by omega, by omega, ?_⟩
        rw [dMul_t, if_pos ⟨by simp, by omega, by omega, by simp⟩]
        simp
      have s1 := rep_srt k x
      have hLl : (List.replicate k x).length = k := List.length_replicate
      have hx0 : atI (List.replicate k x) 0 = some x := atI_nat (j := 0) (by rw [List.getElem?_replicate]; simp; omega)
      have hc : Dw.cutD ((List.replicate k x).map D.int) none (some 1) = [.int x] := by
        rw [cut_map, show (1 : Int) = ((1 : Nat) : Int) from rfl, cut_take]
        obtain ⟨k', rfl⟩ : ∃ k', k = k' + 1 := ⟨k - 1, by omega⟩
        rw [List.replicate_succ]; rfl
      obtain ⟨p1, p2, p3⟩ := s1
      have r1 := (srt_rising _).mpr p1
      generalize List.replicate k x = L at *
      have a1 : dAdd (.tup (L.map .int)) (.tup [.int x]) = some (.tup ((L ++ [x]).map .int)) := by
        rw [dAdd_t, if_pos (sz (by simp; omega))]; simp
      have a2 : dAdd (.tup (L.map .int)) (.tup (L.map .int)) = some (.tup ((L ++ L).map .int)) := by
        rw [dAdd_t, if_pos (sz (by simp; omega))]; simp
      have sL : sortI (L ++ L) = L ++ L := srt_uniq (sortI_srt _) p2 (sortI_perm _)
      simp only [sSeq, sNil, sIf, sSet, sAsg, sPar, sPar3, sRet, sRetN, sExpr, sBreak, sCont, sSetIx, wVar, wC, wOp, wChain, wTb, wAnd, wOr, wNotT, wAndV, wOrV, wNotV, wIf, wNil, wCons, wTup, wLst, wLstO, wSl, wNoPart, wPart, wCB, wNeg, wOrT, wTruth, wJoin, wLc, sFor, wipeE, wKw, wYes, wCall, wCallO, wApp, iL, iT, iR1, iR2, iZ, iS, gN, gsNil, gsCons, gTn, endsOf, retR_d, retR_o, sFrz, frz_d, frz_o0, frz_o1, frz_o10, tru_l, tru_t, tru_b, tru_i, tru_n, List.eraseIdx_cons_zero, List.eraseIdx_cons_succ, exists_eq', exists_eq, shf_d, bck_d, toC_nil, toC_d, toC_o, ds_nil, ds_cons, dats_nil, dats_d, dat_d, dat_o0, dat_o1, dat_o2, startE, kg, cutE, cut1_d, cut1_n, cut1_o0, cut1_o1, zipA,
  dAdd_i, dI0_i, dMod_i, dFdiv_i, dPow_i, dLt_i, dLe_i, dGt_i, dGe_i, dLt_s, dLe_s, dGt_s, dGe_s, dEq_i, dEq_s, dEq_b, dEq_is, dEq_si, dEq_ni, dEq_in, dEq_sn, dEq_ns, dNe_i, dNe_s, dNe_b, dNe_is, dNe_si, dNe_ni, dNe_in, dIs_b, dIs_n, dIsNot_b, dIsNot_n, dIx_l, dIx_t, dSl_l, dSl_t, dEq_ti, dEq_li, D.isN, atI_0, atI_1, atI_2, atI_3, atI_4, atI_5, atI_map, map_int_inj, map_str_inj,
  fLen_t, fLen_l, fLen_s, fInt_i, fInt_b, fTup_l, fTup_t, fList_l, fList_t, fMax2_i, fMin2_i, fAbs_i, isi_int_int, isi_int_bool, isi_int_str, isi_int_tup, isi_int_lst, isi_bl_int, isi_bl_bool, isi_bl_str, isi_bl_tup, isi_str_int, isi_str_bool, isi_str_str, isi_str_tup, isi_tup_int, isi_tup_bool, isi_tup_str, isi_tup_tup, isi_lst_int, isi_lst_bool, isi_lst_str, isi_lst_tup, isi_lst_lst, isi_non_int, isi_non_bool, isi_non_str, isi_non_tup, items_t, items_l,
  List.getElem?_cons_zero, List.getElem?_cons_succ, List.set_cons_zero, List.set_cons_succ, List.map_cons, List.map_nil, List.length_cons, List.length_nil, List.cons_append, List.nil_append, List.append_nil, List.replicate_succ, List.replicate_zero, Nat.reduceAdd, Nat.reduceSub, List.head?_cons, List.tail_cons, List.take_succ_cons, List.take_zero, List.take_nil,
  Option.some.injEq, Option.map_some, Option.map_none, exists_eq_left', exists_eq_left, Rv.d.injEq, Rv.o.injEq, D.int.injEq, D.bl.injEq, D.str.injEq, D.tup.injEq, D.lst.injEq, MO.lst.injEq, List.cons.injEq, and_true, true_and, and_assoc, exists_and_left, decide_eq_true_eq, if_true, Bool.true_eq_false, Bool.false_eq_true, if_false, reduceIte, Bool.not_true, Bool.not_false, eq_self, exists_const, List.filterMap_cons_some, List.filterMap_nil, List.filterMap_cons, and_self, CMul_iff, or_true, true_or, Int.reduceLT, Int.reduceLE, Int.reduceToNat, Int.reduceNeg, Int.reduceSub, Int.reduceAdd, Int.reducePow, Nat.reducePow, Int.reduceMul, ixN_def, Int.cast_ofNat_Int, Int.reduceEq, decide_true, decide_false, dMul_i, dPow_i, strD, reduceCtorEq, ite_true, ite_false, Nat.reduceLT, Nat.reduceLeDiff, Int.reduceAbs, false_and, and_false, or_false, false_or, exists_false, hL, hx0, hc, a1, a2]
      refine ⟨L, x, rfl, rfl, by omega, ?_⟩
      rw [p3]
      simp only [sSeq, sNil, sIf, sSet, sAsg, sPar, sPar3, sRet, sRetN, sExpr, sBreak, sCont, sSetIx, wVar, wC, wOp, wChain, wTb, wAnd, wOr, wNotT, wAndV, wOrV, wNotV, wIf, wNil, wCons, wTup, wLst, wLstO, wSl, wNoPart, wPart, wCB, wNeg, wOrT, wTruth, wJoin, wLc, sFor, wipeE, wKw, wYes, wCall, wCallO, wApp, iL, iT, iR1, iR2, iZ, iS, gN, gsNil, gsCons, gTn, endsOf, retR_d, retR_o, sFrz, frz_d, frz_o0, frz_o1, frz_o10, tru_l, tru_t, tru_b, tru_i, tru_n, List.eraseIdx_cons_zero, List.eraseIdx_cons_succ, exists_eq', exists_eq, shf_d, bck_d, toC_nil, toC_d, toC_o, ds_nil, ds_cons, dats_nil, dats_d, dat_d, dat_o0, dat_o1, dat_o2, startE, kg, cutE, cut1_d, cut1_n, cut1_o0, cut1_o1, zipA,
  dAdd_i, dI0_i, dMod_i, dFdiv_i, dPow_i, dLt_i, dLe_i, dGt_i, dGe_i, dLt_s, dLe_s, dGt_s, dGe_s, dEq_i, dEq_s, dEq_b, dEq_is, dEq_si, dEq_ni, dEq_in, dEq_sn, dEq_ns, dNe_i, dNe_s, dNe_b, dNe_is, dNe_si, dNe_ni, dNe_in, dIs_b, dIs_n, dIsNot_b, dIsNot_n, dIx_l, dIx_t, dSl_l, dSl_t, dEq_ti, dEq_li, D.isN, atI_0, atI_1, atI_2, atI_3, atI_4, atI_5, atI_map, map_int_inj, map_str_inj,
  fLen_t, fLen_l, fLen_s, fInt_i, fInt_b, fTup_l, fTup_t, fList_l, fList_t, fMax2_i, fMin2_i, fAbs_i, isi_int_int, isi_int_bool, isi_int_str, isi_int_tup, isi_int_lst, isi_bl_int, isi_bl_bool, isi_bl_str, isi_bl_tup, isi_str_int, isi_str_bool, isi_str_str, isi_str_tup, isi_tup_int, isi_tup_bool, isi_tup_str, isi_tup_tup, isi_lst_int, isi_lst_bool, isi_lst_str, isi_lst_tup, isi_lst_lst, isi_non_int, isi_non_bool, isi_non_str, isi_non_tup, items_t, items_l,
  List.getElem?_cons_zero, List.getElem?_cons_succ, List.set_cons_zero, List.set_cons_succ, List.map_cons, List.map_nil, List.length_cons, List.length_nil, List.cons_append, List.nil_append, List.append_nil, List.replicate_succ, List.replicate_zero, Nat.reduceAdd, Nat.reduceSub, List.head?_cons, List.tail_cons, List.take_succ_cons, List.take_zero, List.take_nil,
  Option.some.injEq, Option.map_some, Option.map_none, exists_eq_left', exists_eq_left, Rv.d.injEq, Rv.o.injEq, D.int.injEq, D.bl.injEq, D.str.injEq, D.tup.injEq, D.lst.injEq, MO.lst.injEq, List.cons.injEq, and_true, true_and, and_assoc, exists_and_left, decide_eq_true_eq, if_true, Bool.true_eq_false, Bool.false_eq_true, if_false, reduceIte, Bool.not_true, Bool.not_false, eq_self, exists_const, List.filterMap_cons_some, List.filterMap_nil, List.filterMap_cons, and_self, CMul_iff, or_true, true_or, Int.reduceLT, Int.reduceLE, Int.reduceToNat, Int.reduceNeg, Int.reduceSub, Int.reduceAdd, Int.reducePow, Nat.reducePow, Int.reduceMul, ixN_def, Int.cast_ofNat_Int, Int.reduceEq, decide_true, decide_false, dMul_i, dPow_i, strD, reduceCtorEq, ite_true, ite_false, Nat.reduceLT, Nat.reduceLeDiff, Int.reduceAbs, false_and, and_false, or_false, false_or, exists_false, c__law_same]
      refine ⟨same_t _ (by simp; omega), L, L, rfl, rfl, by omega, ?_⟩
      rw [sL]
      simp only [sSeq, sNil, sIf, sSet, sAsg, sPar, sPar3, sRet, sRetN, sExpr, sBreak, sCont, sSetIx, wVar, wC, wOp, wChain, wTb, wAnd, wOr, wNotT, wAndV, wOrV, wNotV, wIf, wNil, wCons, wTup, wLst, wLstO, wSl, wNoPart, wPart, wCB, wNeg, wOrT, wTruth, wJoin, wLc, sFor, wipeE, wKw, wYes, wCall, wCallO, wApp, iL, iT, iR1, iR2, iZ, iS, gN, gsNil, gsCons, gTn, endsOf, retR_d, retR_o, sFrz, frz_d, frz_o0, frz_o1, frz_o10, tru_l, tru_t, tru_b, tru_i, tru_n, List.eraseIdx_cons_zero, List.eraseIdx_cons_succ, exists_eq', exists_eq, shf_d, bck_d, toC_nil, toC_d, toC_o, ds_nil, ds_cons, dats_nil, dats_d, dat_d, dat_o0, dat_o1, dat_o2, startE, kg, cutE, cut1_d, cut1_n, cut1_o0, cut1_o1, zipA,
  dAdd_i, dI0_i, dMod_i, dFdiv_i, dPow_i, dLt_i, dLe_i, dGt_i, dGe_i, dLt_s, dLe_s, dGt_s, dGe_s, dEq_i, dEq_s, dEq_b, dEq_is, dEq_si, dEq_ni, dEq_in, dEq_sn, dEq_ns, dNe_i, dNe_s, dNe_b, dNe_is, dNe_si, dNe_ni, dNe_in, dIs_b, dIs_n, dIsNot_b, dIsNot_n, dIx_l, dIx_t, dSl_l, dSl_t, dEq_ti, dEq_li, D.isN, atI_0, atI_1, atI_2, atI_3, atI_4, atI_5, atI_map, map_int_inj, map_str_inj,
  fLen_t, fLen_l, fLen_s, fInt_i, fInt_b, fTup_l, fTup_t, fList_l, fList_t, fMax2_i, fMin2_i, fAbs_i, isi_int_int, isi_int_bool, isi_int_str, isi_int_tup, isi_int_lst, isi_bl_int, isi_bl_bool, isi_bl_str, isi_bl_tup, isi_str_int, isi_str_bool, isi_str_str, isi_str_tup, isi_tup_int, isi_tup_bool, isi_tup_str, isi_tup_tup, isi_lst_int, isi_lst_bool, isi_lst_str, isi_lst_tup, isi_lst_lst, isi_non_int, isi_non_bool, isi_non_str, isi_non_tup, items_t, items_l,
  List.getElem?_cons_zero, List.getElem?_cons_succ, List.set_cons_zero, List.set_cons_succ, List.map_cons, List.map_nil, List.length_cons, List.length_nil, List.cons_append, List.nil_append, List.append_nil, List.replicate_succ, List.replicate_zero, Nat.reduceAdd, Nat.reduceSub, List.head?_cons, List.tail_cons, List.take_succ_cons, List.take_zero, List.take_nil,
  Option.some.injEq, Option.map_some, Option.map_none, exists_eq_left', exists_eq_left, Rv.d.injEq, Rv.o.injEq, D.int.injEq, D.bl.injEq, D.str.injEq, D.tup.injEq, D.lst.injEq, MO.lst.injEq, List.cons.injEq, and_true, true_and, and_assoc, exists_and_left, decide_eq_true_eq, if_true, Bool.true_eq_false, Bool.false_eq_true, if_false, reduceIte, Bool.not_true, Bool.not_false, eq_self, exists_const, List.filterMap_cons_some, List.filterMap_nil, List.filterMap_cons, and_self, CMul_iff, or_true, true_or, Int.reduceLT, Int.reduceLE, Int.reduceToNat, Int.reduceNeg, Int.reduceSub, Int.reduceAdd, Int.reducePow, Nat.reducePow, Int.reduceMul, ixN_def, Int.cast_ofNat_Int, Int.reduceEq, decide_true, decide_false, dMul_i, dPow_i, strD, reduceCtorEq, ite_true, ite_false, Nat.reduceLT, Nat.reduceLeDiff, Int.reduceAbs, false_and, and_false, or_false, false_or, exists_false, c__law_same]
      refine ⟨same_t _ (by simp; omega), L, rfl, rfl, by omega, ?_⟩
      rw [r1]
      simp only [sSeq, sNil, sIf, sSet, sAsg, sPar, sPar3, sRet, sRetN, sExpr, sBreak, sCont, sSetIx, wVar, wC, wOp, wChain, wTb, wAnd, wOr, wNotT, wAndV, wOrV, wNotV, wIf, wNil, wCons, wTup, wLst, wLstO, wSl, wNoPart, wPart, wCB, wNeg, wOrT, wTruth, wJoin, wLc, sFor, wipeE, wKw, wYes, wCall, wCallO, wApp, iL, iT, iR1, iR2, iZ, iS, gN, gsNil, gsCons, gTn, endsOf, retR_d, retR_o, sFrz, frz_d, frz_o0, frz_o1, frz_o10, tru_l, tru_t, tru_b, tru_i, tru_n, List.eraseIdx_cons_zero, List.eraseIdx_cons_succ, exists_eq', exists_eq, shf_d, bck_d, toC_nil, toC_d, toC_o, ds_nil, ds_cons, dats_nil, dats_d, dat_d, dat_o0, dat_o1, dat_o2, startE, kg, cutE, cut1_d, cut1_n, cut1_o0, cut1_o1, zipA,
  dAdd_i, dI0_i, dMod_i, dFdiv_i, dPow_i, dLt_i, dLe_i, dGt_i, dGe_i, dLt_s, dLe_s, dGt_s, dGe_s, dEq_i, dEq_s, dEq_b, dEq_is, dEq_si, dEq_ni, dEq_in, dEq_sn, dEq_ns, dNe_i, dNe_s, dNe_b, dNe_is, dNe_si, dNe_ni, dNe_in, dIs_b, dIs_n, dIsNot_b, dIsNot_n, dIx_l, dIx_t, dSl_l, dSl_t, dEq_ti, dEq_li, D.isN, atI_0, atI_1, atI_2, atI_3, atI_4, atI_5, atI_map, map_int_inj, map_str_inj,
  fLen_t, fLen_l, fLen_s, fInt_i, fInt_b, fTup_l, fTup_t, fList_l, fList_t, fMax2_i, fMin2_i, fAbs_i, isi_int_int, isi_int_bool, isi_int_str, isi_int_tup, isi_int_lst, isi_bl_int, isi_bl_bool, isi_bl_str, isi_bl_tup, isi_str_int, isi_str_bool, isi_str_str, isi_str_tup, isi_tup_int, isi_tup_bool, isi_tup_str, isi_tup_tup, isi_lst_int, isi_lst_bool, isi_lst_str, isi_lst_tup, isi_lst_lst, isi_non_int, isi_non_bool, isi_non_str, isi_non_tup, items_t, items_l,
  List.getElem?_cons_zero, List.getElem?_cons_succ, List.set_cons_zero, List.set_cons_succ, List.map_cons, List.map_nil, List.length_cons, List.length_nil, List.cons_append, List.nil_append, List.append_nil, List.replicate_succ, List.replicate_zero, Nat.reduceAdd, Nat.reduceSub, List.head?_cons, List.tail_cons, List.take_succ_cons, List.take_zero, List.take_nil,
  Option.some.injEq, Option.map_some, Option.map_none, exists_eq_left', exists_eq_left, Rv.d.injEq, Rv.o.injEq, D.int.injEq, D.bl.injEq, D.str.injEq, D.tup.injEq, D.lst.injEq, MO.lst.injEq, List.cons.injEq, and_true, true_and, and_assoc, exists_and_left, decide_eq_true_eq, if_true, Bool.true_eq_false, Bool.false_eq_true, if_false, reduceIte, Bool.not_true, Bool.not_false, eq_self, exists_const, List.filterMap_cons_some, List.filterMap_nil, List.filterMap_cons, and_self, CMul_iff, or_true, true_or, Int.reduceLT, Int.reduceLE, Int.reduceToNat, Int.reduceNeg, Int.reduceSub, Int.reduceAdd, Int.reducePow, Nat.reducePow, Int.reduceMul, ixN_def, Int.cast_ofNat_Int, Int.reduceEq, decide_true, decide_false, dMul_i, dPow_i, strD, reduceCtorEq, ite_true, ite_false, Nat.reduceLT, Nat.reduceLeDiff, Int.reduceAbs, false_and, and_false, or_false, false_or, exists_false]
      refine ⟨sz (by decide), [2, 1], rfl, rfl, by simp, ?_⟩
      rw [show rising [2, 1] = false by decide]
      simp only [sSeq, sNil, sIf, sSet, sAsg, sPar, sPar3, sRet, sRetN, sExpr, sBreak, sCont, sSetIx, wVar, wC, wOp, wChain, wTb, wAnd, wOr, wNotT, wAndV, wOrV, wNotV, wIf, wNil, wCons, wTup, wLst, wLstO, wSl, wNoPart, wPart, wCB, wNeg, wOrT, wTruth, wJoin, wLc, sFor, wipeE, wKw, wYes, wCall, wCallO, wApp, iL, iT, iR1, iR2, iZ, iS, gN, gsNil, gsCons, gTn, endsOf, retR_d, retR_o, sFrz, frz_d, frz_o0, frz_o1, frz_o10, tru_l, tru_t, tru_b, tru_i, tru_n, List.eraseIdx_cons_zero, List.eraseIdx_cons_succ, exists_eq', exists_eq, shf_d, bck_d, toC_nil, toC_d, toC_o, ds_nil, ds_cons, dats_nil, dats_d, dat_d, dat_o0, dat_o1, dat_o2, startE, kg, cutE, cut1_d, cut1_n, cut1_o0, cut1_o1, zipA,
  dAdd_i, dI0_i, dMod_i, dFdiv_i, dPow_i, dLt_i, dLe_i, dGt_i, dGe_i, dLt_s, dLe_s, dGt_s, dGe_s, dEq_i, dEq_s, dEq_b, dEq_is, dEq_si, dEq_ni, dEq_in, dEq_sn, dEq_ns, dNe_i, dNe_s, dNe_b, dNe_is, dNe_si, dNe_ni, dNe_in, dIs_b, dIs_n, dIsNot_b, dIsNot_n, dIx_l, dIx_t, dSl_l, dSl_t, dEq_ti, dEq_li, D.isN, atI_0, atI_1, atI_2, atI_3, atI_4, atI_5, atI_map, map_int_inj, map_str_inj,
  fLen_t, fLen_l, fLen_s, fInt_i, fInt_b, fTup_l, fTup_t, fList_l, fList_t, fMax2_i, fMin2_i, fAbs_i, isi_int_int, isi_int_bool, isi_int_str, isi_int_tup, isi_int_lst, isi_bl_int, isi_bl_bool, isi_bl_str, isi_bl_tup, isi_str_int, isi_str_bool, isi_str_str, isi_str_tup, isi_tup_int, isi_tup_bool, isi_tup_str, isi_tup_tup, isi_lst_int, isi_lst_bool, isi_lst_str, isi_lst_tup, isi_lst_lst, isi_non_int, isi_non_bool, isi_non_str, isi_non_tup, items_t, items_l,
  List.getElem?_cons_zero, List.getElem?_cons_succ, List.set_cons_zero, List.set_cons_succ, List.map_cons, List.map_nil, List.length_cons, List.length_nil, List.cons_append, List.nil_append, List.append_nil, List.replicate_succ, List.replicate_zero, Nat.reduceAdd, Nat.reduceSub, List.head?_cons, List.tail_cons, List.take_succ_cons, List.take_zero, List.take_nil,
  Option.some.injEq, Option.map_some, Option.map_none, exists_eq_left', exists_eq_left, Rv.d.injEq, Rv.o.injEq, D.int.injEq, D.bl.injEq, D.str.injEq, D.tup.injEq, D.lst.injEq, MO.lst.injEq, List.cons.injEq, and_true, true_and, and_assoc, exists_and_left, decide_eq_true_eq, if_true, Bool.true_eq_false, Bool.false_eq_true, if_false, reduceIte, Bool.not_true, Bool.not_false, eq_self, exists_const, List.filterMap_cons_some, List.filterMap_nil, List.filterMap_cons, and_self, CMul_iff, or_true, true_or, Int.reduceLT, Int.reduceLE, Int.reduceToNat, Int.reduceNeg, Int.reduceSub, Int.reduceAdd, Int.reducePow, Nat.reducePow, Int.reduceMul, ixN_def, Int.cast_ofNat_Int, Int.reduceEq, decide_true, decide_false, dMul_i, dPow_i, strD, reduceCtorEq, ite_true, ite_false, Nat.reduceLT, Nat.reduceLeDiff, Int.reduceAbs, false_and, and_false, or_false, false_or, exists_false]
      refine ⟨sz (by decide), [1, 1, 0], rfl, rfl, by simp, ?_⟩
      rw [show rising [1, 1, 0] = false by decide]
      simp only [sSeq, sNil, sIf, sSet, sAsg, sPar, sPar3, sRet, sRetN, sExpr, sBreak, sCont, sSetIx, wVar, wC, wOp, wChain, wTb, wAnd, wOr, wNotT, wAndV, wOrV, wNotV, wIf, wNil, wCons, wTup, wLst, wLstO, wSl, wNoPart, wPart, wCB, wNeg, wOrT, wTruth, wJoin, wLc, sFor, wipeE, wKw, wYes, wCall, wCallO, wApp, iL, iT, iR1, iR2, iZ, iS, gN, gsNil, gsCons, gTn, endsOf, retR_d, retR_o, sFrz, frz_d, frz_o0, frz_o1, frz_o10, tru_l, tru_t, tru_b, tru_i, tru_n, List.eraseIdx_cons_zero, List.eraseIdx_cons_succ, exists_eq', exists_eq, shf_d, bck_d, toC_nil, toC_d, toC_o, ds_nil, ds_cons, dats_nil, dats_d, dat_d, dat_o0, dat_o1, dat_o2, startE, kg, cutE, cut1_d, cut1_n, cut1_o0, cut1_o1, zipA,
  dAdd_i, dI0_i, dMod_i, dFdiv_i, dPow_i, dLt_i, dLe_i, dGt_i, dGe_i, dLt_s, dLe_s, dGt_s, dGe_s, dEq_i, dEq_s, dEq_b, dEq_is, dEq_si, dEq_ni, dEq_in, dEq_sn, dEq_ns, dNe_i, dNe_s, dNe_b, dNe_is, dNe_si, dNe_ni, dNe_in, dIs_b, dIs_n, dIsNot_b, dIsNot_n, dIx_l, dIx_t, dSl_l, dSl_t, dEq_ti, dEq_li, D.isN, atI_0, atI_1, atI_2, atI_3, atI_4, atI_5, atI_map, map_int_inj, map_str_inj,
  fLen_t, fLen_l, fLen_s, fInt_i, fInt_b, fTup_l, fTup_t, fList_l, fList_t, fMax2_i, fMin2_i, fAbs_i, isi_int_int, isi_int_bool, isi_int_str, isi_int_tup, isi_int_lst, isi_bl_int, isi_bl_bool, isi_bl_str, isi_bl_tup, isi_str_int, isi_str_bool, isi_str_str, isi_str_tup, isi_tup_int, isi_tup_bool, isi_tup_str, isi_tup_tup, isi_lst_int, isi_lst_bool, isi_lst_str, isi_lst_tup, isi_lst_lst, isi_non_int, isi_non_bool, isi_non_str, isi_non_tup, items_t, items_l,
  List.getElem?_cons_zero, List.getElem?_cons_succ, List.set_cons_zero, List.set_cons_succ, List.map_cons, List.map_nil, List.length_cons, List.length_nil, List.cons_append, List.nil_append, List.append_nil, List.replicate_succ, List.replicate_zero, Nat.reduceAdd, Nat.reduceSub, List.head?_cons, List.tail_cons, List.take_succ_cons, List.take_zero, List.take_nil,
  Option.some.injEq, Option.map_some, Option.map_none, exists_eq_left', exists_eq_left, Rv.d.injEq, Rv.o.injEq, D.int.injEq, D.bl.injEq, D.str.injEq, D.tup.injEq, D.lst.injEq, MO.lst.injEq, List.cons.injEq, and_true, true_and, and_assoc, exists_and_left, decide_eq_true_eq, if_true, Bool.true_eq_false, Bool.false_eq_true, if_false, reduceIte, Bool.not_true, Bool.not_false, eq_self, exists_const, List.filterMap_cons_some, List.filterMap_nil, List.filterMap_cons, and_self, CMul_iff, or_true, true_or, Int.reduceLT, Int.reduceLE, Int.reduceToNat, Int.reduceNeg, Int.reduceSub, Int.reduceAdd, Int.reducePow, Nat.reducePow, Int.reduceMul, ixN_def, Int.cast_ofNat_Int, Int.reduceEq, decide_true, decide_false, dMul_i, dPow_i, strD, reduceCtorEq, ite_true, ite_false, Nat.reduceLT, Nat.reduceLeDiff, Int.reduceAbs, false_and, and_false, or_false, false_or, exists_false]
      exact h
end Lk00
set_option Elab.async false
set_option linter.all false
set_option maxRecDepth 100000
set_option maxHeartbeats 4000000
namespace Lk00
open PySem PySem.Spec PyProof.Rows L2 Dw
def d_is_number : He.DefD := ⟨("is_number", none), "is_number", "is_number", defArgs s_is_number, defBody s_is_number, defScope s_is_number, [], []⟩
def d_is_thing : He.DefD := ⟨("is_thing", none), "is_thing", "is_thing", defArgs s_is_thing, defBody s_is_thing, defScope s_is_thing, [], []⟩
def d_is_told_number : He.DefD := ⟨("is_told_number", none), "is_told_number", "is_told_number", defArgs s_is_told_number, defBody s_is_told_number, defScope s_is_told_number, [], []⟩
def d_is_bin : He.DefD := ⟨("is_bin", none), "is_bin", "is_bin", defArgs s_is_bin, defBody s_is_bin, defScope s_is_bin, [], []⟩
def d_is_open_name : He.DefD := ⟨("is_open_name", none), "is_open_name", "is_open_name", defArgs s_is_open_name, defBody s_is_open_name, defScope s_is_open_name, [], []⟩
def d_is_rising : He.DefD := ⟨("is_rising", none), "is_rising", "is_rising", defArgs s_is_rising, defBody s_is_rising, defScope s_is_rising, [], []⟩
def d_at_most : He.DefD := ⟨("at_most", none), "at_most", "at_most", defArgs s_at_most, defBody s_at_most, defScope s_at_most, [], []⟩
def d_least_of : He.DefD := ⟨("least_of", none), "least_of", "least_of", defArgs s_least_of, defBody s_least_of, defScope s_least_of, [], []⟩
def d_put_in : He.DefD := ⟨("put_in", none), "put_in", "put_in", defArgs s_put_in, defBody s_put_in, defScope s_put_in, [], []⟩
def d_poured : He.DefD := ⟨("poured", none), "poured", "poured", defArgs s_poured, defBody s_poured, defScope s_poured, [], []⟩
def d__law_tray : He.DefD := ⟨("_law_tray", none), "_law_tray", "_law_tray", defArgs s__law_tray, defBody s__law_tray, defScope s__law_tray, [], []⟩
def d__law_pick : He.DefD := ⟨("_law_pick", none), "_law_pick", "_law_pick", defArgs s__law_pick, defBody s__law_pick, defScope s__law_pick, [], []⟩
def d__law_same : He.DefD := ⟨("_law_same", none), "_law_same", "_law_same", defArgs s__law_same, defBody s__law_same, defScope s__law_same, [], []⟩
def d__law_thing : He.DefD := ⟨("_law_thing", none), "_law_thing", "_law_thing", defArgs s__law_thing, defBody s__law_thing, defScope s__law_thing, [], []⟩
def d__law_row : He.DefD := ⟨("_law_row", none), "_law_row", "_law_row", defArgs s__law_row, defBody s__law_row, defScope s__law_row, [], []⟩
def d__law_put : He.DefD := ⟨("_law_put", none), "_law_put", "_law_put", defArgs s__law_put, defBody s__law_put, defScope s__law_put, [], []⟩
def d__law_word : He.DefD := ⟨("_law_word", none), "_law_word", "_law_word", defArgs s__law_word, defBody s__law_word, defScope s__law_word, [], []⟩
def d__law_numbers : He.DefD := ⟨("_law_numbers", none), "_law_numbers", "_law_numbers", defArgs s__law_numbers, defBody s__law_numbers, defScope s__law_numbers, [], []⟩
def d__law_words : He.DefD := ⟨("_law_words", none), "_law_words", "_law_words", defArgs s__law_words, defBody s__law_words, defScope s__law_words, [], []⟩
def d__law_rows : He.DefD := ⟨("_law_rows", none), "_law_rows", "_law_rows", defArgs s__law_rows, defBody s__law_rows, defScope s__law_rows, [], []⟩
def d__law_fallen : He.DefD := ⟨("_law_fallen", none), "_law_fallen", "_law_fallen", defArgs s__law_fallen, defBody s__law_fallen, defScope s__law_fallen, [], []⟩
def d__law_pairs : He.DefD := ⟨("_law_pairs", none), "_law_pairs", "_law_pairs", defArgs s__law_pairs, defBody s__law_pairs, defScope s__law_pairs, [], []⟩
def d_law : He.DefD := ⟨("law", none), "law", "law", defArgs s_law, defBody s_law, defScope s_law, [], []⟩
def fn : List He.DefD := ([d_is_number, d_is_thing, d_is_told_number, d_is_bin, d_is_open_name, d_is_rising, d_at_most, d_least_of, d_put_in, d_poured, d__law_tray, d__law_pick, d__law_same, d__law_thing, d__law_row, d__law_put, d__law_word, d__law_numbers, d__law_words, d__law_rows, d__law_fallen, d__law_pairs, d_law] : List He.DefD)
def fa : List He.Fa := ([.glo "is_number", .glo "is_thing", .glo "is_told_number", .glo "is_bin", .glo "is_open_name", .glo "is_rising", .glo "at_most", .glo "least_of", .glo "put_in", .glo "poured", .glo "_law_tray", .glo "_law_pick", .glo "_law_same", .glo "_law_thing", .glo "_law_row", .glo "_law_put", .glo "_law_word", .glo "_law_numbers", .glo "_law_words", .glo "_law_rows", .glo "_law_fallen", .glo "_law_pairs", .glo "law", .free "all", .free "bool", .free "int", .free "isinstance", .free "len", .free "list", .free "min", .free "range", .free "sorted", .free "str", .free "tuple", .free "zip", .int "MOST_THING" 1000, .int "MOST_TOLD" 999] : List He.Fa)
abbrev Rr : PySem.W.OpenRow := PySem.W.OpenLaw.row PySem.Challenge.rw_likethings_k00_things
abbrev hk : PySem.W.Hook := He.hookD 4 fa fn
def ob (s : PySem.W.SharedT) : He.AlD := He.obsDG 4 fa fn (HandSHeadRun.getT s)
theorem ob_eq (s : PySem.W.SharedT) : ob s = hk.obs s.abs := He.obsDG_eq (HandSHeadRun.getT_eq s)
def loose : List PySem.Str := (["MOST_THING", "MOST_TOLD", "is_number", "is_thing", "is_told_number", "is_bin", "is_open_name", "is_rising", "at_most", "least_of", "put_in", "poured", "_law_tray", "_law_pick", "_law_same", "_law_thing", "_law_row", "_law_put", "_law_word", "_law_numbers", "_law_words", "_law_rows", "_law_fallen", "_law_pairs"] : List PySem.Str)
theorem run (w : World) : HandSHeadRun.RunEq Rr (PySem.W.view Rr.prog [26]) hk ob 4000 loose w := by
  intro os
  kernel_rfl
theorem mkT {K : PySem.W.Frag} {h : Heap} {mg : Str → Option Value} (X : K.In h) (G : h.Ns mainGlobals mg) (c : He.SaysD fa fn K) : Nonempty (Tx K mg) := by
  obtain ⟨fd0, F0⟩ := c.def_ 0 (d := d_is_number) rfl
  obtain ⟨fd1, F1⟩ := c.def_ 1 (d := d_is_thing) rfl
  obtain ⟨fd2, F2⟩ := c.def_ 2 (d := d_is_told_number) rfl
  obtain ⟨fd3, F3⟩ := c.def_ 3 (d := d_is_bin) rfl
  obtain ⟨fd4, F4⟩ := c.def_ 4 (d := d_is_open_name) rfl
  obtain ⟨fd5, F5⟩ := c.def_ 5 (d := d_is_rising) rfl
  obtain ⟨fd6, F6⟩ := c.def_ 6 (d := d_at_most) rfl
  obtain ⟨fd7, F7⟩ := c.def_ 7 (d := d_least_of) rfl
  obtain ⟨fd8, F8⟩ := c.def_ 8 (d := d_put_in) rfl
  obtain ⟨fd9, F9⟩ := c.def_ 9 (d := d_poured) rfl
  obtain ⟨fd10, F10⟩ := c.def_ 10 (d := d__law_tray) rfl
  obtain ⟨fd11, F11⟩ := c.def_ 11 (d := d__law_pick) rfl
  obtain ⟨fd12, F12⟩ := c.def_ 12 (d := d__law_same) rfl
  obtain ⟨fd13, F13⟩ := c.def_ 13 (d := d__law_thing) rfl
  obtain ⟨fd14, F14⟩ := c.def_ 14 (d := d__law_row) rfl
  obtain ⟨fd15, F15⟩ := c.def_ 15 (d := d__law_put) rfl
  obtain ⟨fd16, F16⟩ := c.def_ 16 (d := d__law_word) rfl
  obtain ⟨fd17, F17⟩ := c.def_ 17 (d := d__law_numbers) rfl
  obtain ⟨fd18, F18⟩ := c.def_ 18 (d := d__law_words) rfl
  obtain ⟨fd19, F19⟩ := c.def_ 19 (d := d__law_rows) rfl
  obtain ⟨fd20, F20⟩ := c.def_ 20 (d := d__law_fallen) rfl
  obtain ⟨fd21, F21⟩ := c.def_ 21 (d := d__law_pairs) rfl
  obtain ⟨fd22, F22⟩ := c.def_ 22 (d := d_law) rfl
  obtain ⟨t0, k0⟩ := He.int_ok X G (c.fact 35 (f := .int "MOST_THING" 1000) rfl)
  obtain ⟨t1, k1⟩ := He.int_ok X G (c.fact 36 (f := .int "MOST_TOLD" 999) rfl)
  exact ⟨{ a_is_number := _, fd_is_number := fd0, F_is_number := F0, g_is_number := He.glo_ok X G (c.fact 0 (f := .glo "is_number") rfl), a_is_thing := _, fd_is_thing := fd1, F_is_thing := F1, g_is_thing := He.glo_ok X G (c.fact 1 (f := .glo "is_thing") rfl), a_is_told_number := _, fd_is_told_number := fd2, F_is_told_number := F2, g_is_told_number := He.glo_ok X G (c.fact 2 (f := .glo "is_told_number") rfl), a_is_bin := _, fd_is_bin := fd3, F_is_bin := F3, g_is_bin := He.glo_ok X G (c.fact 3 (f := .glo "is_bin") rfl), a_is_open_name := _, fd_is_open_name := fd4, F_is_open_name := F4, g_is_open_name := He.glo_ok X G (c.fact 4 (f := .glo "is_open_name") rfl), a_is_rising := _, fd_is_rising := fd5, F_is_rising := F5, g_is_rising := He.glo_ok X G (c.fact 5 (f := .glo "is_rising") rfl), a_at_most := _, fd_at_most := fd6, F_at_most := F6, g_at_most := He.glo_ok X G (c.fact 6 (f := .glo "at_most") rfl), a_least_of := _, fd_least_of := fd7, F_least_of := F7, g_least_of := He.glo_ok X G (c.fact 7 (f := .glo "least_of") rfl), a_put_in := _, fd_put_in := fd8, F_put_in := F8, g_put_in := He.glo_ok X G (c.fact 8 (f := .glo "put_in") rfl), a_poured := _, fd_poured := fd9, F_poured := F9, g_poured := He.glo_ok X G (c.fact 9 (f := .glo "poured") rfl), a__law_tray := _, fd__law_tray := fd10, F__law_tray := F10, g__law_tray := He.glo_ok X G (c.fact 10 (f := .glo "_law_tray") rfl), a__law_pick := _, fd__law_pick := fd11, F__law_pick := F11, g__law_pick := He.glo_ok X G (c.fact 11 (f := .glo "_law_pick") rfl), a__law_same := _, fd__law_same := fd12, F__law_same := F12, g__law_same := He.glo_ok X G (c.fact 12 (f := .glo "_law_same") rfl), a__law_thing := _, fd__law_thing := fd13, F__law_thing := F13, g__law_thing := He.glo_ok X G (c.fact 13 (f := .glo "_law_thing") rfl), a__law_row := _, fd__law_row := fd14, F__law_row := F14, g__law_row := He.glo_ok X G (c.fact 14 (f := .glo "_law_row") rfl), a__law_put := _, fd__law_put := fd15, F__law_put := F15, g__law_put := He.glo_ok X G (c.fact 15 (f := .glo "_law_put") rfl), a__law_word := _, fd__law_word := fd16, F__law_word := F16, g__law_word := He.glo_ok X G (c.fact 16 (f := .glo "_law_word") rfl), a__law_numbers := _, fd__law_numbers := fd17, F__law_numbers := F17, g__law_numbers := He.glo_ok X G (c.fact 17 (f := .glo "_law_numbers") rfl), a__law_words := _, fd__law_words := fd18, F__law_words := F18, g__law_words := He.glo_ok X G (c.fact 18 (f := .glo "_law_words") rfl), a__law_rows := _, fd__law_rows := fd19, F__law_rows := F19, g__law_rows := He.glo_ok X G (c.fact 19 (f := .glo "_law_rows") rfl), a__law_fallen := _, fd__law_fallen := fd20, F__law_fallen := F20, g__law_fallen := He.glo_ok X G (c.fact 20 (f := .glo "_law_fallen") rfl), a__law_pairs := _, fd__law_pairs := fd21, F__law_pairs := F21, g__law_pairs := He.glo_ok X G (c.fact 21 (f := .glo "_law_pairs") rfl), a_law := _, fd_law := fd22, F_law := F22, g_law := He.glo_ok X G (c.fact 22 (f := .glo "law") rfl), n_all := He.free_ok X G (c.fact 23 (f := .free "all") rfl), n_bool := He.free_ok X G (c.fact 24 (f := .free "bool") rfl), n_int := He.free_ok X G (c.fact 25 (f := .free "int") rfl), n_isinstance := He.free_ok X G (c.fact 26 (f := .free "isinstance") rfl), n_len := He.free_ok X G (c.fact 27 (f := .free "len") rfl), n_list := He.free_ok X G (c.fact 28 (f := .free "list") rfl), n_min := He.free_ok X G (c.fact 29 (f := .free "min") rfl), n_range := He.free_ok X G (c.fact 30 (f := .free "range") rfl), n_sorted := He.free_ok X G (c.fact 31 (f := .free "sorted") rfl), n_str := He.free_ok X G (c.fact 32 (f := .free "str") rfl), n_tuple := He.free_ok X G (c.fact 33 (f := .free "tuple") rfl), n_zip := He.free_ok X G (c.fact 34 (f := .free "zip") rfl), t_MOST_THING := t0, k_MOST_THING := k0, t_MOST_TOLD := t1, k_MOST_TOLD := k1 }⟩
theorem viewNil (H : Hp) : Dw.view [] [] H = H := by
  funext a
  show (if a ∈ ([] : List Addr) ++ [] then none else H a) = H a
  rw [if_neg (by simp)]
theorem stoNil {K : PySem.W.Frag} {H : Hp} : Sto K [] [] H [] := ⟨rfl, List.nodup_nil, by simp, by simp, by simp⟩
theorem sp_law {K : PySem.W.Frag} (H : Hp) (a : Addr) (ns : List Int) (hl : ns.length ≤ 63) (hS : SqL K H a (ns.map V.int)) : spD K c_law [.ref a] H (fun v _ => v = .bl true) fun _ _ _ => False := by
  refine ⟨[], [], [], [.d (.lst (ns.map .int))], fun r _ => r = .d (.bl true), stoNil, ⟨.ref a, [], rfl, ⟨a, ns.map V.int, rfl, by rw [viewNil]; exact hS, Reps.of_ints ns⟩, rfl⟩, ⟨ns, rfl, rfl, hl, rfl⟩, ?_⟩
  intro r M' e v H' A' _ _ _ _ rv
  subst e
  exact rv
theorem facts {P : Program} {w : World} {K : PySem.W.Frag} {h : Heap} {mg : Str → Option Value} {f : Addr} (X : K.In h) (G : h.Ns mainGlobals mg) (hfa : mg ("law" : Str) = some (.ref f)) (c : He.SaysD fa fn K) :
    ∃ fd : FuncData, (∀ (s : Shared) (v : Value), BindsTo s fd ⟨[v], []⟩ [("script", v)]) ∧ ∀ base : Heap, K.In base → base.Ns mainGlobals mg → FnOk P w K mg base CX0 5 f fd ["script"] (spD K c_law) := by
  obtain ⟨T⟩ := mkT X G c
  have e := hfa.symm.trans T.g_law
  cases e
  have b := FunD.bindsA (ps := ["script"]) T.F_law fun _ _ _ _ _ _ us hl => match us, hl with | [_], _ => rfl
  exact ⟨T.fd_law, fun s v => b s [v] rfl, fun base _ _ => ok_law T⟩
end Lk00
open PySem PySem.W PySem.Calls PyProof.Rows
theorem PySem.Challenge.cw_likethings_k00_things_holds : PySem.Challenge.rw_likethings_k00_things.Holds := by
  w_on; o_law
  refine HandSHeadRun.head_any (r := OpenLaw.row PySem.Challenge.rw_likethings_k00_things) (q := view (OpenLaw.row PySem.Challenge.rw_likethings_k00_things).prog [26]) (H := Lk00.hk) (ob := Lk00.ob) (M := 4000) (loose := Lk00.loose) (d := HandSHeadRun.topDef (OpenLaw.row PySem.Challenge.rw_likethings_k00_things).prog 26) (kwd := []) Lk00.ob_eq
    (by kernel_rfl) (fun s => by kernel_rfl) Lk00.run (by kernel_rfl) (by kernel_rfl) (by kernel_rfl) (by rfl) (by first | assumption | decide +kernel) (by decide +kernel) ⟨rfl, rfl, rfl, rfl, rfl, by decide +kernel⟩ ?hw ?hc
  case hw => w_witness2
  case hc =>
    refine L2.walk_ofE (l := PySem.Challenge.rw_likethings_k00_things) (n := 63) (k := 5) (x := "script") (CX := L2.CX0) rfl (by decide) (by kernel_rfl) ⟨rfl, by decide, by decide⟩ ?F (fun _ _ _ _ z => z)
    intro w mg fa h Y G hmg0
    obtain ⟨K, KX, c⟩ := Y
    have hmg : mg ("law" : PySem.Str) = some (.ref fa) := by
      have e : (HandSHeadRun.topDef (OpenLaw.row PySem.Challenge.rw_likethings_k00_things).prog 26).name = ("law" : PySem.Str) := by kernel_rfl
      rw [← e]
      exact hmg0
    obtain ⟨fd, hb, hF⟩ := Lk00.facts (P := (PySem.Challenge.rw_likethings_k00_things).prog) (w := w) KX G hmg c
    exact ⟨K, fd, Dw.spD K Lk00.c_law, KX, hb, fun H a ns hl _ hS => Lk00.sp_law H a ns hl hS, hF⟩
