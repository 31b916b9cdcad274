import PyProof.Rows.All
import Wide.All
import OpenK.AllK
import Wide.FinOn
import HandS.ForMost
import HandS.IsInst
import HandS.Flow
import HandS.Style
import HandS.TupAny
import HandS.TupMul
import HandS.TupLe
import HandS.SortInts
import HandS.Zip
import HandS.Defaults
import KE.SortData
import KE.KSortAsk
import HandS.Exc
import HandS.TryMany
import HandS.ExcInit
import HandS.ExcField
import HandS.ExcOwn
import HandS.Dict
import HandS.SetFor
import HandS.Iter
import HandS.HeadHook1
import HandS.HeadHook2
import KE.GoesMore
import KE.GoesEnum
import HandS.DictComp
import KE.DataMinMax
import KE.DataFind
import HandS.SortKw
import HandS.Conv
import HandS.SetBool
import HandS.SetKeys
import HandS.TupSets
import HandS.Comp
import KE.KRevSl
import HandS.More
import HandS.RaiseMore
import KE.KTupSum
import HandS.Rev
import PyProof.Rows.StrMeet
import HandS.Words
import HandS.WordsExc
import HandS.Head0
import HandS.Head1
import HandS.Head2
import HandS.HeadEnd
import KE.KStateDown
import PySem.Challenge.RW_likethings_k26_lottables
set_option Elab.async false
set_option linter.all false
set_option maxRecDepth 100000
set_option maxHeartbeats 4000000
/-! Dw1: data without the heap: what an expression's and a statement's readings say over plain data. -/
namespace Dw
open PySem PySem.Spec PyProof.Rows L2

/-- plain data: never changed once made -/
inductive D where
  | non | bl (b : Bool) | int (i : Int) | str (x : Str) | ty (n : String) | tup (ds : List D) | lst (ds : List D) | ref (a : Addr)
  /-- a dict that changes no more: keys and what they are for -/
  | dct (ks : List Key) (ds : List D)

/-- a value: data, or the k-th of the objects that may change -/
inductive Rv where
  | d (x : D) | o (k : Nat)

/-- what may change -/
inductive MO where
  | lst (ds : List D) | gone
  /-- a list, a dict; la, da: at an address that others name -/
  | la (a : Addr) (ds : List D) | dic (kvs : List (Key × D)) | da (a : Addr) (kvs : List (Key × D))
def MO.ls : MO → Option (List D)
  | .lst ds => some ds
  | .la _ ds => some ds
  | _ => none
def MO.put : MO → List D → MO
  | .la a _, ds => .la a ds
  | _, ds => .lst ds
def MO.dc : MO → Option (List (Key × D))
  | .dic kvs => some kvs
  | .da _ kvs => some kvs
  | _ => none
def MO.dput : MO → List (Key × D) → MO
  | .da a _, kvs => .da a kvs
  | _, kvs => .dic kvs
def MO.raw : MO → Addr → MO
  | .lst ds, a => .la a ds
  | .dic kvs, a => .da a kvs
  | mo, _ => mo

theorem headTail {α : Type} {l : List α} {x : α} (h : l.head? = some x) : l = x :: l.tail := by
  cases l with
  | nil => cases h
  | cons y r => cases h; rfl
abbrev Env' := List (Option Rv)
abbrev Mem := List MO

def off (H : Hp) (l : List Addr) : Hp := fun a => if a ∈ l then none else H a
theorem off_some {H : Hp} {l : List Addr} {a : Addr} {o : HO} (h : off H l a = some o) : a ∉ l ∧ H a = some o := by
  unfold off at h
  by_cases e : a ∈ l
  · rw [if_pos e] at h; cases h
  · rw [if_neg e] at h; exact ⟨e, h⟩
theorem off_of {H : Hp} {l : List Addr} {a : Addr} {o : HO} (n : a ∉ l) (h : H a = some o) : off H l a = some o := by
  unfold off; rw [if_neg n]; exact h
theorem off_sub {H : Hp} {l : List Addr} : Same (off H l) H := fun _ _ h => (off_some h).2
theorem off_same {H H' : Hp} {l : List Addr} (e : Same H H') : Same (off H l) (off H' l) := fun a o h => off_of (off_some h).1 (e a o (off_some h).2)
theorem off_less {H : Hp} {l l' : List Addr} (e : ∀ a, a ∈ l' → a ∈ l) : Same (off H l) (off H l') := fun a o h => off_of (fun z => (off_some h).1 (e a z)) (off_some h).2

theorem same_t {K : PySem.W.Frag} {H H' : Hp} {a : Addr} {xs : List V} (e : Same H H') (h : SqT K H a xs) : SqT K H' a xs := by
  rcases h with (h | ⟨o, h⟩) | h
  · exact .inl (.inl (e _ _ h))
  · exact .inl (.inr ⟨o, e _ _ h⟩)
  · exact .inr h
theorem same_l {K : PySem.W.Frag} {H H' : Hp} {a : Addr} {xs : List V} (e : Same H H') (h : SqL K H a xs) : SqL K H' a xs := e.seq h
theorem same_upd {H : Hp} {p : Addr} {o : HO} (h : H p = none) : Same H (upd H p o) := fun b x e => by
  rw [upd_ne (ne_of_none e h)]; exact e

section
variable (K : PySem.W.Frag) (h : Hp)
mutual
def Rep : D → V → Prop
  | .non, v => v = .non
  | .bl b, v => v = .bl b
  | .int i, v => v = .int i
  | .str x, v => v = .str x
  | .ty n, v => v = .ty n
  | .ref a, v => v = .ref a
  | .tup ds, v => ∃ a vs, v = .ref a ∧ SqT K h a vs ∧ Reps ds vs
  | .lst ds, v => ∃ a vs, v = .ref a ∧ SqL K h a vs ∧ Reps ds vs
  | .dct ks ds, v => ∃ a vs, v = .ref a ∧ h a = some (.dK (ks.zip vs)) ∧ ks.length = vs.length ∧ Reps ds vs
def Reps : List D → List V → Prop
  | [], vs => vs = []
  | d :: ds, vs => ∃ v us, vs = v :: us ∧ Rep d v ∧ Reps ds us
end
end
section
variable {K : PySem.W.Frag} {h h' : Hp}
mutual
theorem Rep.mono (e : Same h h') : ∀ (d : D) (v : V), Rep K h d v → Rep K h' d v
  | .non, _, r => r
  | .bl _, _, r => r
  | .int _, _, r => r
  | .str _, _, r => r
  | .ty _, _, r => r
  | .ref _, _, r => r
  | .tup ds, _, ⟨a, vs, e1, e2, e3⟩ => ⟨a, vs, e1, same_t e e2, Reps.mono e ds vs e3⟩
  | .lst ds, _, ⟨a, vs, e1, e2, e3⟩ => ⟨a, vs, e1, same_l e e2, Reps.mono e ds vs e3⟩
  | .dct _ ds, _, ⟨a, vs, e1, e2, e4, e3⟩ => ⟨a, vs, e1, e _ _ e2, e4, Reps.mono e ds vs e3⟩
theorem Reps.mono (e : Same h h') : ∀ (ds : List D) (vs : List V), Reps K h ds vs → Reps K h' ds vs
  | [], _, r => r
  | d :: ds, _, ⟨v, us, e1, e2, e3⟩ => ⟨v, us, e1, Rep.mono e d v e2, Reps.mono e ds us e3⟩
end
theorem Reps.len : ∀ {ds : List D} {vs : List V}, Reps K h ds vs → vs.length = ds.length
  | [], _, r => by cases r; rfl
  | d :: ds, _, ⟨v, us, e1, e2, e3⟩ => by subst e1; simp [Reps.len e3]
theorem Reps.get : ∀ {ds : List D} {vs : List V} {i : Nat} {d : D}, Reps K h ds vs → ds[i]? = some d → ∃ v, vs[i]? = some v ∧ Rep K h d v
  | [], _, _, _, _, e => by simp at e
  | d :: ds, _, 0, _, ⟨v, us, e1, e2, e3⟩, e => by subst e1; simp at e; subst e; exact ⟨v, rfl, e2⟩
  | d :: ds, _, i + 1, _, ⟨v, us, e1, e2, e3⟩, e => by
    subst e1
    obtain ⟨w, q1, q2⟩ := Reps.get (i := i) e3 (by simpa using e)
    exact ⟨w, by simpa using q1, q2⟩
theorem Reps.app : ∀ {ds : List D} {vs : List V} {es : List D} {us : List V}, Reps K h ds vs → Reps K h es us → Reps K h (ds ++ es) (vs ++ us)
  | [], _, _, _, r, s => by cases r; exact s
  | d :: ds, _, _, _, ⟨v, ws, e1, e2, e3⟩, s => by subst e1; exact ⟨v, _, rfl, e2, Reps.app e3 s⟩
theorem Reps.one {d : D} {v : V} (r : Rep K h d v) : Reps K h [d] [v] := ⟨v, [], rfl, r, rfl⟩
theorem Reps.nil : Reps K h [] [] := rfl
theorem Reps.cons {d : D} {v : V} {ds : List D} {vs : List V} (r : Rep K h d v) (s : Reps K h ds vs) : Reps K h (d :: ds) (v :: vs) := ⟨v, vs, rfl, r, s⟩
theorem Reps.take : ∀ {ds : List D} {vs : List V} (n : Nat), Reps K h ds vs → Reps K h (ds.take n) (vs.take n)
  | _, _, 0, _ => by simpa using Reps.nil
  | [], _, n + 1, r => by cases r; exact rfl
  | d :: ds, _, n + 1, ⟨v, us, e1, e2, e3⟩ => by subst e1; exact ⟨v, _, rfl, e2, Reps.take n e3⟩
theorem Reps.drop : ∀ {ds : List D} {vs : List V} (n : Nat), Reps K h ds vs → Reps K h (ds.drop n) (vs.drop n)
  | _, _, 0, r => by simpa using r
  | [], _, n + 1, r => by cases r; exact rfl
  | d :: ds, _, n + 1, ⟨v, us, e1, e2, e3⟩ => by subst e1; simpa using Reps.drop n e3
theorem Reps.set {d : D} {v : V} (r : Rep K h d v) : ∀ {ds : List D} {vs : List V} (i : Nat), Reps K h ds vs → Reps K h (ds.set i d) (vs.set i v)
  | [], _, i, s => by cases s; exact rfl
  | e :: ds, _, 0, ⟨u, us, e1, e2, e3⟩ => by subst e1; exact ⟨v, us, rfl, r, e3⟩
  | e :: ds, _, i + 1, ⟨u, us, e1, e2, e3⟩ => by subst e1; exact ⟨u, _, rfl, e2, Reps.set r i e3⟩
theorem Reps.rev : ∀ {ds : List D} {vs : List V}, Reps K h ds vs → Reps K h ds.reverse vs.reverse
  | [], _, r => by cases r; exact rfl
  | d :: ds, _, ⟨v, us, e1, e2, e3⟩ => by
    subst e1
    rw [List.reverse_cons, List.reverse_cons]
    exact Reps.app (Reps.rev e3) (Reps.one e2)
theorem Reps.ints : ∀ {ns : List Int} {vs : List V}, Reps K h (ns.map D.int) vs → vs = ns.map V.int
  | [], _, r => r
  | n :: ns, _, ⟨v, us, e1, e2, e3⟩ => by subst e1; cases e2; rw [Reps.ints e3]; rfl
theorem Reps.of_ints : ∀ (ns : List Int), Reps K h (ns.map D.int) (ns.map V.int)
  | [] => rfl
  | n :: ns => ⟨_, _, rfl, rfl, Reps.of_ints ns⟩
theorem Reps.strs : ∀ {ns : List Str} {vs : List V}, Reps K h (ns.map D.str) vs → vs = ns.map V.str
  | [], _, r => r
  | n :: ns, _, ⟨v, us, e1, e2, e3⟩ => by subst e1; cases e2; rw [Reps.strs e3]; rfl
theorem Reps.of_strs : ∀ (ns : List Str), Reps K h (ns.map D.str) (ns.map V.str)
  | [] => rfl
  | n :: ns => ⟨_, _, rfl, rfl, Reps.of_strs ns⟩
theorem Reps.bls : ∀ {ns : List Bool} {vs : List V}, Reps K h (ns.map D.bl) vs → vs = ns.map V.bl
  | [], _, r => r
  | n :: ns, _, ⟨v, us, e1, e2, e3⟩ => by subst e1; cases e2; rw [Reps.bls e3]; rfl
end

/-! ### the objects that may change: their addresses A, what else is hidden S -/
section
variable (K : PySem.W.Frag) (S A : List Addr) (H : Hp)
abbrev view : Hp := off H (S ++ A)
def RepD (K : PySem.W.Frag) (h : Hp) (kvs : List (Key × D)) (us : List (Key × V)) : Prop := us.map (·.1) = kvs.map (·.1) ∧ Reps K h (kvs.map (·.2)) (us.map (·.2))
def MOk (a : Addr) : MO → Prop
  | .lst ds => ∃ vs, H a = some (.lst vs) ∧ Reps K (view S A H) ds vs
  | .gone => ∃ o, H a = some o
  | .la b ds => (∃ vs, H a = some (.lst vs) ∧ Reps K (view S A H) ds vs) ∧ a = b
  | .dic kvs => ∃ us, H a = some (.dK us) ∧ RepD K (view S A H) kvs us
  | .da b kvs => (∃ us, H a = some (.dK us) ∧ RepD K (view S A H) kvs us) ∧ a = b
def RepV : Rv → V → Prop
  | .d x, v => Rep K (view S A H) x v
  | .o k, v => ∃ a, A[k]? = some a ∧ v = .ref a
structure Sto (M : Mem) : Prop where
  len : A.length = M.length
  nd : A.Nodup
  dj : ∀ a ∈ A, a ∉ S
  trk : ∀ a ∈ S, ∃ o, H a = some o
  mem : ∀ (k : Nat) (mo : MO) (a : Addr), M[k]? = some mo → A[k]? = some a → MOk K S A H a mo
/-- where a run began: what was hidden, the heap -/
structure Bs where
  S0 : List Addr
  H0 : Hp
/-- since then: the hidden stays, what was in view is in view -/
structure JOk (J : Bs) : Prop where
  sub : ∀ a ∈ J.S0, a ∈ S
  hid : ∀ a ∈ J.S0, H a = J.H0 a
  view : Same (off J.H0 J.S0) (view S A H)
end
structure EnvOk (J : Bs) (K : PySem.W.Frag) (S A : List Addr) (H : Hp) (env : Env') (σ : L2.St) : Prop where
  j : JOk S A H J
  len : σ.length = env.length
  at_ : ∀ (i : Nat) (r : Rv), env[i]? = some (some r) → ∃ v, σ[i]? = some (some v) ∧ RepV K S A H r v
section
variable (S A : List Addr) (H : Hp)
/-- behind: more is there, the hidden stays -/
structure Post (A' : List Addr) (H' : Hp) : Prop where
  pre : A <+: A'
  view : Same (view S A H) (view S A' H')
  hid : ∀ a ∈ S, H' a = H a
end
section
variable {K : PySem.W.Frag} {S A A' A2 : List Addr} {H H' H2 : Hp} {M M' : Mem} {env : Env'} {σ : L2.St}
theorem MOk.there {a : Addr} {mo : MO} (h : MOk K S A H a mo) : ∃ o, H a = some o := by
  cases mo with
  | lst ds => obtain ⟨vs, e, _⟩ := h; exact ⟨_, e⟩
  | gone => exact h
  | la b ds => obtain ⟨⟨vs, e, _⟩, _⟩ := h; exact ⟨_, e⟩
  | dic kvs => obtain ⟨us, e, _⟩ := h; exact ⟨_, e⟩
  | da b kvs => obtain ⟨⟨us, e, _⟩, _⟩ := h; exact ⟨_, e⟩
theorem MOk.on {a : Addr} {mo : MO} {S' : List Addr} (h : MOk K S A H a mo) (k : ∀ o, H a = some o → H' a = some o) (e : Same (view S A H) (view S' A' H')) : MOk K S' A' H' a mo := by
  cases mo with
  | lst ds => obtain ⟨vs, q1, q2⟩ := h; exact ⟨vs, k _ q1, Reps.mono e _ _ q2⟩
  | gone => obtain ⟨o, q1⟩ := h; exact ⟨o, k _ q1⟩
  | la b ds => obtain ⟨⟨vs, q1, q2⟩, q3⟩ := h; exact ⟨⟨vs, k _ q1, Reps.mono e _ _ q2⟩, q3⟩
  | dic kvs => obtain ⟨us, q1, q2, q3⟩ := h; exact ⟨us, k _ q1, q2, Reps.mono e _ _ q3⟩
  | da b kvs => obtain ⟨⟨us, q1, q2, q3⟩, q4⟩ := h; exact ⟨⟨us, k _ q1, q2, Reps.mono e _ _ q3⟩, q4⟩
theorem MOk.lsD {a : Addr} {mo : MO} {ds : List D} (h : MOk K S A H a mo) (e : mo.ls = some ds) : ∃ vs, H a = some (.lst vs) ∧ Reps K (view S A H) ds vs := by
  cases mo <;> cases e
  · exact h
  · exact h.1
theorem MOk.put {a : Addr} {mo : MO} {ds0 ds : List D} {vs : List V} {S' : List Addr} (h : MOk K S A H a mo) (e : mo.ls = some ds0) (q1 : H' a = some (.lst vs)) (q2 : Reps K (view S' A' H') ds vs) : MOk K S' A' H' a (mo.put ds) := by
  cases mo <;> cases e
  · exact ⟨vs, q1, q2⟩
  · exact ⟨⟨vs, q1, q2⟩, h.2⟩
theorem MOk.dcD {a : Addr} {mo : MO} {kvs : List (Key × D)} (h : MOk K S A H a mo) (e : mo.dc = some kvs) : ∃ us, H a = some (.dK us) ∧ RepD K (view S A H) kvs us := by
  cases mo <;> cases e
  · exact h
  · exact h.1
theorem MOk.dput {a : Addr} {mo : MO} {k0 kvs : List (Key × D)} {us : List (Key × V)} {S' : List Addr} (h : MOk K S A H a mo) (e : mo.dc = some k0) (q1 : H' a = some (.dK us)) (q2 : RepD K (view S' A' H') kvs us) : MOk K S' A' H' a (mo.dput kvs) := by
  cases mo <;> cases e
  · exact ⟨us, q1, q2⟩
  · exact ⟨⟨us, q1, q2⟩, h.2⟩
theorem MOk.raw {a : Addr} {mo : MO} (h : MOk K S A H a mo) : MOk K S A H a (mo.raw a) := by
  cases mo with
  | lst ds => exact ⟨h, rfl⟩
  | dic kvs => exact ⟨h, rfl⟩
  | _ => exact h
theorem Post.refl : Post S A H A H := ⟨List.prefix_refl _, Same.refl _, fun _ _ => rfl⟩
theorem Post.trans (a : Post S A H A' H') (b : Post S A' H' A2 H2) : Post S A H A2 H2 :=
  ⟨a.pre.trans b.pre, a.view.trans b.view, fun x hx => (b.hid x hx).trans (a.hid x hx)⟩
theorem RepV.mono (p : Post S A H A' H') {r : Rv} {v : V} (h : RepV K S A H r v) : RepV K S A' H' r v := by
  cases r with
  | d x => exact Rep.mono p.view x v h
  | o k =>
    obtain ⟨a, e, rfl⟩ := h
    obtain ⟨t, rfl⟩ := p.pre
    have hk : k < A.length := (List.getElem?_eq_some_iff.mp e).1
    exact ⟨a, by rw [List.getElem?_append_left hk]; exact e, rfl⟩
theorem JOk.mono {J : Bs} (p : Post S A H A' H') (h : JOk S A H J) : JOk S A' H' J :=
  ⟨h.sub, fun a ha => (p.hid a (h.sub a ha)).trans (h.hid a ha), h.view.trans p.view⟩
theorem EnvOk.mono (p : Post S A H A' H') (h : EnvOk J K S A H env σ) : EnvOk J K S A' H' env σ :=
  ⟨h.j.mono p, h.len, fun i r e => let ⟨v, e1, e2⟩ := h.at_ i r e; ⟨v, e1, e2.mono p⟩⟩
theorem EnvOk.set {i : Nat} {r : Rv} {v : V} (h : EnvOk J K S A H env σ) (q : RepV K S A H r v) : EnvOk J K S A H (env.set i (some r)) (σ.set i (some v)) := by
  refine ⟨h.j, by rw [List.length_set, List.length_set]; exact h.len, fun j s e => ?_⟩
  by_cases ij : i = j
  · subst ij
    rw [List.getElem?_set] at e
    simp only [if_true] at e
    split at e
    · rename_i hlt
      cases e
      exact ⟨v, by rw [List.getElem?_set_self (by rw [h.len]; exact hlt)], q⟩
    · cases e
  · rw [List.getElem?_set_ne ij] at e
    obtain ⟨w, e1, e2⟩ := h.at_ j s e
    exact ⟨w, by rw [List.getElem?_set_ne ij]; exact e1, e2⟩
theorem Sto.trkA (s : Sto K S A H M) : ∀ a ∈ A, ∃ o, H a = some o := fun a ha => by
  obtain ⟨k, hk, e⟩ := List.getElem_of_mem ha
  have hm : k < M.length := by rw [← s.len]; exact hk
  exact (s.mem k M[k] a (List.getElem?_eq_getElem hm) (by rw [List.getElem?_eq_getElem hk, e])).there
theorem Sto.trk' (s : Sto K S A H M) : ∀ a ∈ S ++ A, ∃ o, H a = some o := fun a ha => (List.mem_append.mp ha).elim (s.trk a) (s.trkA a)
theorem Sto.fresh (s : Sto K S A H M) {p : Addr} (h : H p = none) : p ∉ S ++ A := fun z => by
  obtain ⟨o, e⟩ := s.trk' p z
  rw [h] at e; cases e
/-- what is more in the heap -/
theorem Sto.grow (s : Sto K S A H M) (e : Same H H') : Sto K S A H' M := by
  refine ⟨s.len, s.nd, s.dj, fun a ha => let ⟨o, q⟩ := s.trk a ha; ⟨o, e a o q⟩, fun k mo a h1 h2 => ?_⟩
  exact (s.mem k mo a h1 h2).on (e a) (off_same e)
theorem Sto.post (s : Sto K S A H M) (e : Same H H') : Post S A H A H' := ⟨List.prefix_refl _, off_same e, fun a ha => by
  obtain ⟨o, q⟩ := s.trk a ha
  rw [q]; exact e a o q⟩
theorem view_new {p : Addr} {o : HO} (h : H p = none) : Same (view S A H) (view S (A ++ [p]) (upd H p o)) := fun b x e => by
  obtain ⟨n, q⟩ := off_some e
  have hb : b ≠ p := ne_of_none q h
  refine off_of (fun z => ?_) (by rw [upd_ne hb]; exact q)
  rw [← List.append_assoc] at z
  rcases List.mem_append.mp z with z | z
  · exact n z
  · exact hb (by simpa using z)
/-- a new object that may change -/
theorem Sto.new (s : Sto K S A H M) {p : Addr} {o : HO} {mo : MO} (h : H p = none) (q : MOk K S (A ++ [p]) (upd H p o) p mo) : Sto K S (A ++ [p]) (upd H p o) (M ++ [mo]) ∧ Post S A H (A ++ [p]) (upd H p o) := by
  have fr := s.fresh h
  have vw : Same (view S A H) (view S (A ++ [p]) (upd H p o)) := view_new h
  refine ⟨⟨by simp [s.len], ?_, fun a ha => ?_, fun a ha => ?_, fun k m a h1 h2 => ?_⟩, ⟨List.prefix_append _ _, vw, fun a ha => ?_⟩⟩
  · rw [List.nodup_append]
    refine ⟨s.nd, by simp, fun a ha b hb e => fr (List.mem_append_right _ ?_)⟩
    have : b = p := by simpa using hb
    rw [← this, ← e]; exact ha
  · rcases List.mem_append.mp ha with ha | ha
    · exact s.dj a ha
    · have e : a = p := by simpa using ha
      subst e
      exact fun z => fr (List.mem_append_left _ z)
  · obtain ⟨u, e⟩ := s.trk a ha
    exact ⟨u, by rw [upd_ne (ne_of_none e h)]; exact e⟩
  · by_cases hk : k < A.length
    · rw [List.getElem?_append_left hk] at h2
      rw [List.getElem?_append_left (by rw [← s.len]; exact hk)] at h1
      exact (s.mem k m a h1 h2).on (fun o q2 => by rw [upd_ne (ne_of_none q2 h)]; exact q2) vw
    · have hk2 : k = A.length := by
        have := (List.getElem?_eq_some_iff.mp h2).1
        simp at this; omega
      subst hk2
      rw [List.getElem?_append_right (Nat.le_refl _)] at h2
      rw [s.len, List.getElem?_append_right (Nat.le_refl _)] at h1
      simp at h1 h2
      subst h1 h2
      exact q
  · obtain ⟨u, e⟩ := s.trk a ha
    rw [upd_ne (ne_of_none e h)]
theorem view_set {a : Addr} {o : HO} (ha : a ∈ A) : view S A (upd H a o) = view S A H := by
  funext b
  unfold view off
  by_cases e : b ∈ S ++ A
  · rw [if_pos e, if_pos e]
  · rw [if_neg e, if_neg e, upd_ne (fun z => e (List.mem_append_right _ (by rw [z]; exact ha)))]
/-- an object is changed -/
theorem Sto.set (s : Sto K S A H M) {k : Nat} {a : Addr} {o : HO} {mo : MO} (hk : A[k]? = some a) (q : MOk K S A (upd H a o) a mo) : Sto K S A (upd H a o) (M.set k mo) ∧ Post S A H A (upd H a o) := by
  have ha : a ∈ A := List.mem_of_getElem? hk
  have vw : view S A (upd H a o) = view S A H := view_set ha
  have nS : ∀ b ∈ S, b ≠ a := fun b hb e => s.dj a ha (e ▸ hb)
  refine ⟨⟨by simp [s.len], s.nd, s.dj, fun b hb => ?_, fun j m b h1 h2 => ?_⟩, ⟨List.prefix_refl _, by rw [vw]; exact Same.refl _, fun b hb => by rw [upd_ne (nS b hb)]⟩⟩
  · rw [upd_ne (nS b hb)]; exact s.trk b hb
  · by_cases hj : j = k
    · subst hj
      rw [hk] at h2; cases h2
      rw [List.getElem?_set] at h1
      simp only [if_true] at h1
      split at h1
      · cases h1; exact q
      · cases h1
    · rw [List.getElem?_set_ne (Ne.symm hj)] at h1
      have q1 := s.mem j m b h1 h2
      have hb : b ≠ a := fun e => by
        subst e
        obtain ⟨h3, e3⟩ := List.getElem?_eq_some_iff.mp h2
        obtain ⟨h4, e4⟩ := List.getElem?_eq_some_iff.mp hk
        exact hj ((List.getElem_inj s.nd).mp (e3.trans e4.symm))
      exact q1.on (fun o q2 => by rw [upd_ne hb]; exact q2) (by rw [vw]; exact Same.refl _)
end

/-! ### data that is read: also from an object that may change -/
def RepF (K : PySem.W.Frag) (H h : Hp) : D → V → Prop
  | .lst ds, v => ∃ a vs, v = .ref a ∧ SqL K H a vs ∧ Reps K h ds vs
  | d, v => Rep K h d v
def Rv.dat (M : Mem) : Rv → Option D
  | .d x => some x
  | .o k => (M[k]?).bind fun mo => mo.ls.map D.lst
section
variable {K : PySem.W.Frag} {S A A' A2 : List Addr} {H H' H2 : Hp} {M M' : Mem} {env : Env'} {σ : L2.St}
theorem Rep.f (e : Same h H) {d : D} {v : V} (r : Rep K h d v) : RepF K H h d v := by
  cases d with
  | lst ds => obtain ⟨a, vs, e1, e2, e3⟩ := r; exact ⟨a, vs, e1, same_l e e2, e3⟩
  | _ => exact r
theorem Sto.dat (s : Sto K S A H M) {r : Rv} {v : V} {d : D} (q : RepV K S A H r v) (e : r.dat M = some d) : RepF K H (view S A H) d v := by
  cases r with
  | d x => cases e; exact Rep.f off_sub q
  | o k =>
    obtain ⟨a, e1, rfl⟩ := q
    cases hk : M[k]? with
    | none => simp [Rv.dat, hk] at e
    | some mo =>
      cases hl : mo.ls with
      | none => simp [Rv.dat, hk, hl] at e
      | some ds =>
        simp [Rv.dat, hk, hl] at e
        subst e
        obtain ⟨vs, q1, q2⟩ := (s.mem k _ a hk e1).lsD hl
        exact ⟨a, vs, rfl, .inl (.inl q1), q2⟩
end
end Dw
set_option Elab.async false
set_option linter.all false
set_option maxRecDepth 100000
set_option maxHeartbeats 4000000
/-! Dw2: expressions: the judgements and the rules. -/
namespace Dw
open PySem PySem.Spec PyProof.Rows L2

abbrev Qv := Rv → Mem → Prop
abbrev WE := Env' → Mem → Qv → Prop
abbrev WT := Env' → Mem → (Bool → Mem → Prop) → Prop
abbrev WA := Env' → Mem → (List Rv → Mem → Prop) → Prop

def RepVs (K : PySem.W.Frag) (S A : List Addr) (H : Hp) : List Rv → List V → Prop
  | [], vs => vs = []
  | r :: rs, vs => ∃ v us, vs = v :: us ∧ RepV K S A H r v ∧ RepVs K S A H rs us
theorem RepVs.mono {K : PySem.W.Frag} {S A A' : List Addr} {H H' : Hp} (p : Post S A H A' H') : ∀ {rs : List Rv} {vs : List V}, RepVs K S A H rs vs → RepVs K S A' H' rs vs
  | [], _, r => r
  | _ :: _, _, ⟨v, us, e, a, b⟩ => ⟨v, us, e, a.mono p, RepVs.mono p b⟩
theorem RepVs.len {K : PySem.W.Frag} {S A : List Addr} {H : Hp} : ∀ {rs : List Rv} {vs : List V}, RepVs K S A H rs vs → vs.length = rs.length
  | [], _, r => by cases r; rfl
  | _ :: _, _, ⟨v, us, e, a, b⟩ => by subst e; simp [RepVs.len b]

def Wp (J : Bs) (K : PySem.W.Frag) (te : TE) (env : Env') (M : Mem) (Q : Qv) : Prop :=
  ∀ (S A : List Addr) (σ : L2.St) (H : Hp) (R : VK), Sto K S A H M → EnvOk J K S A H env σ →
    (∀ (v : V) (H' : Hp) (r : Rv) (M' : Mem) (A' : List Addr), Post S A H A' H' → Sto K S A' H' M' → RepV K S A' H' r v → Q r M' → R v H') → te σ H R
def WpT (J : Bs) (K : PySem.W.Frag) (te : TT) (env : Env') (M : Mem) (Q : Bool → Mem → Prop) : Prop :=
  ∀ (S A : List Addr) (σ : L2.St) (H : Hp) (R : Bool → Hp → Prop), Sto K S A H M → EnvOk J K S A H env σ →
    (∀ (b : Bool) (H' : Hp) (M' : Mem) (A' : List Addr), Post S A H A' H' → Sto K S A' H' M' → Q b M' → R b H') → te σ H R
def WpA (J : Bs) (K : PySem.W.Frag) (te : TA) (env : Env') (M : Mem) (Q : List Rv → Mem → Prop) : Prop :=
  ∀ (S A : List Addr) (σ : L2.St) (H : Hp) (R : List V → Hp → Prop), Sto K S A H M → EnvOk J K S A H env σ →
    (∀ (vs : List V) (H' : Hp) (rs : List Rv) (M' : Mem) (A' : List Addr), Post S A H A' H' → Sto K S A' H' M' → RepVs K S A' H' rs vs → Q rs M' → R vs H') → te σ H R
def Dn (J : Bs) (K : PySem.W.Frag) (te : TE) (we : WE) : Prop := ∀ env M Q, we env M Q → Wp J K te env M Q
def DnT (J : Bs) (K : PySem.W.Frag) (te : TT) (we : WT) : Prop := ∀ env M Q, we env M Q → WpT J K te env M Q
def DnA (J : Bs) (K : PySem.W.Frag) (te : TA) (we : WA) : Prop := ∀ env M Q, we env M Q → WpA J K te env M Q
/-- the expression e reads as we over data -/
def QE (J : Bs) (X : Cx) (e : Expr) (we : WE) : Prop := ∃ te, PE X e te ∧ Dn J X.K te we
def QT (J : Bs) (X : Cx) (e : Expr) (wt : WT) : Prop := ∃ tt, PT X e tt ∧ DnT J X.K tt wt
def QW (J : Bs) (X : Cx) (e : Expr) (wt : WT) : Prop := ∃ tt, PW X e tt ∧ DnT J X.K tt wt
def QA (J : Bs) (X : Cx) (es : List Expr) (wa : WA) : Prop := ∃ ta, PA X es ta ∧ DnA J X.K ta wa

/-! ### names, constants -/
def wVar (i : Nat) : WE := fun env M Q => ∃ r, env[i]? = some (some r) ∧ Q r M
def wC (d : D) : WE := fun _ M Q => Q (.d d) M
section
variable {X : Cx} {pos : Pos}
theorem qv (i : Nat) {x : Str} (hN : X.N[i]? = some x := by rfl) (hv : Vis X.env.scope x := by first | exact Or.inl rfl | exact Or.inr (Or.inl rfl) | exact Or.inr (Or.inr rfl)) (hd : (x == ("__debug__" : Str)) = false := by decide)
    (hcd : (x == ("__classdict__" : Str)) = false := by decide) : QE J X (.Name x pos) (wVar i) := by
  refine ⟨_, pe_var hN hv hd hcd, fun env M Q hw S A σ H R st en k => ?_⟩
  obtain ⟨r, e, q⟩ := hw
  obtain ⟨v, e1, e2⟩ := en.at_ i r e
  exact ⟨v, e1, k v H r M A Post.refl st e2 q⟩
theorem dn_c {K : PySem.W.Frag} {v : V} {d : D} (h : ∀ h : Hp, Rep K h d v) : Dn J K (tC v) (wC d) := fun env M Q hw S A σ H R st en k => k v H (.d d) M A Post.refl st (h _) hw
theorem qe_int {i : Int} {j : Nat} : QE J X (.Constant (.int i) j pos) (wC (.int i)) := ⟨_, pe_int, dn_c fun _ => rfl⟩
theorem qe_bl {b : Bool} {j : Nat} : QE J X (.Constant (.bool b) j pos) (wC (.bl b)) := ⟨_, pe_bl, dn_c fun _ => rfl⟩
theorem qe_non {j : Nat} : QE J X (.Constant .none j pos) (wC .non) := ⟨_, pe_non, dn_c fun _ => rfl⟩
theorem qe_str {x : Str} {j : Nat} : QE J X (.Constant (.str x) j pos) (wC (.str x)) := ⟨_, pe_str, dn_c fun _ => rfl⟩
theorem qe_ty {x : Str} {n : String} (hg : Gl X x) (hm : X.mg x = none) (hv : bootBuiltins x = some (.type n)) (hn : x ≠ "__name__" := by decide) (hd : (x == ("__debug__" : Str)) = false := by decide) : QE J X (.Name x pos) (wC (.ty n)) :=
  ⟨_, pe_bltn (v := .ty n) hg hm hv rfl hn hd, dn_c fun _ => rfl⟩
/-- a constant of the module -/
theorem qe_glob {x : Str} {v : V} {u : Value} {d : D} (hg : Gl X x) (hm : X.mg x = some u) (r : RelV v u) (hd : ∀ h : Hp, Rep X.K h d v) (hdd : (x == ("__debug__" : Str)) = false := by decide) : QE J X (.Name x pos) (wC d) :=
  ⟨_, pe_glob hg hm r hdd, dn_c hd⟩
end

theorem qe_gint {X : Cx} {pos : Pos} {x : Str} {i : Int} {t : Tok} (hg : Gl X x) (hm : X.mg x = some (.int i t)) (hdd : (x == ("__debug__" : Str)) = false := by decide) : QE J X (.Name x pos) (wC (.int i)) :=
  qe_glob (v := .int i) hg hm ⟨_, rfl⟩ (fun _ => rfl) hdd
/-! ### two-place operations on data -/
/-- f says what r gives -/
def Op2 (K : PySem.W.Frag) (r : R2) (f : D → D → Option D) : Prop :=
  ∀ (S A : List Addr) (M : Mem) (H : Hp) (x y z : D) (v u : V) (R : VK), Sto K S A H M → RepF K H (view S A H) x v → RepF K H (view S A H) y u → f x y = some z →
    (∀ w H', Same H H' → Rep K (view S A H') z w → R w H') → r v u H R
def wOp (f : D → D → Option D) (wa wb : WE) : WE := fun env M Q => wa env M fun x M1 => wb env M1 fun y M2 => ∃ a, x.dat M2 = some a ∧ ∃ b, y.dat M2 = some b ∧ ∃ z, f a b = some z ∧ Q (.d z) M2
theorem dn_op {K : PySem.W.Frag} {r : R2} {f : D → D → Option D} {ta tb : TE} {wa wb : WE} (o : Op2 K r f) (ha : Dn J K ta wa) (hb : Dn J K tb wb) : Dn J K (tOp r ta tb) (wOp f wa wb) := by
  intro env M Q hw S A σ H R st en k
  refine ha env M _ hw S A σ H _ st en fun v H1 x M1 A1 p1 s1 q1 hw1 => ?_
  refine hb env M1 _ hw1 S A1 σ H1 _ s1 (en.mono p1) fun u H2 y M2 A2 p2 s2 q2 ⟨a, ea, b, eb, z, ez, hq⟩ => ?_
  refine o S A2 M2 H2 a b z v u R s2 (s2.dat (q1.mono p2) ea) (s2.dat q2 eb) ez fun w H' sm rw => ?_
  exact k w H' (.d z) M2 A2 ((p1.trans p2).trans (s2.post sm)) (s2.grow sm) rw hq
/-- one or the other, by the data -/
theorem Op2.or {K : PySem.W.Frag} {r r' : R2} {f f' : D → D → Option D} (h : Op2 K r f) (h' : Op2 K r' f') : Op2 K (fun x y H Q => r x y H Q ∨ r' x y H Q) (fun x y => (f x y).or (f' x y)) := by
  intro S A M H x y z v u R st rx ry e k
  have e : (f x y).or (f' x y) = some z := e
  cases q : f x y with
  | some w => rw [q] at e; cases e; exact .inl (h S A M H x y z v u R st rx ry q k)
  | none => rw [q] at e; exact .inr (h' S A M H x y z v u R st rx ry (by simpa using e) k)
theorem Op2.imp {K : PySem.W.Frag} {r r' : R2} {f : D → D → Option D} (h : Op2 K r f) (i : ∀ x y H Q, r x y H Q → r' x y H Q) : Op2 K r' f :=
  fun S A M H x y z v u R st rx ry e k => i _ _ _ _ (h S A M H x y z v u R st rx ry e k)
theorem Op2.sub {K : PySem.W.Frag} {r : R2} {f f' : D → D → Option D} (h : Op2 K r f) (i : ∀ x y z, f' x y = some z → f x y = some z) : Op2 K r f' :=
  fun S A M H x y z v u R st rx ry e k => h S A M H x y z v u R st rx ry (i _ _ _ e) k
theorem Op2.zero {K : PySem.W.Frag} {r : R2} : Op2 K r fun _ _ => none := fun _ _ _ _ _ _ _ _ _ _ _ _ _ e _ => by cases e

def dI2 (p : Int → Int → Bool) (g : Int → Int → D) : D → D → Option D
  | .int i, .int j => if p i j then some (g i j) else none
  | _, _ => none
theorem op2_I {K : PySem.W.Frag} {C : Int → Int → Prop} {p : Int → Int → Bool} {g : Int → Int → D} {gv : Int → Int → V} (hc : ∀ i j, p i j = true → C i j) (hg : ∀ (h : Hp) i j, Rep K h (g i j) (gv i j)) : Op2 K (rI C gv) (dI2 p g) := by
  intro S A M H x y z v u R st rx ry e k
  cases x <;> try (cases e)
  cases y <;> try (cases e)
  cases rx
  cases ry
  unfold dI2 at e
  simp only at e
  split at e
  · rename_i hp
    cases e
    exact ⟨_, _, rfl, rfl, hc _ _ hp, k _ H (Same.refl _) (hg _ _ _)⟩
  · cases e
def dI0 (g : Int → Int → D) : D → D → Option D
  | .int i, .int j => some (g i j)
  | _, _ => none
theorem op2_I0 {K : PySem.W.Frag} {g : Int → Int → D} {gv : Int → Int → V} (hg : ∀ (h : Hp) i j, Rep K h (g i j) (gv i j)) : Op2 K (rI0 gv) (dI0 g) := by
  intro S A M H x y z v u R st rx ry e k
  cases x <;> try (cases e)
  cases y <;> try (cases e)
  cases rx
  cases ry
  exact ⟨_, _, rfl, rfl, k _ H (Same.refl _) (hg _ _ _)⟩

/-! ### arithmetic -/
section
variable {X : Cx} {K : PySem.W.Frag}
def rCatS (K : PySem.W.Frag) : R2 := fun x y H Q => ∃ l b xs zs, x = .ref l ∧ y = .ref b ∧ SqL K H l xs ∧ SqL K H b zs ∧ xs.length + zs.length ≤ sizeLine ∧ ∀ p, H p = none → Q (.ref p) (upd H p (.lst (xs ++ zs)))
theorem op_catS : OpR X (binaryOp .Add) (rCatS X.K) := by
  intro pins s σ H x y v u Q I rx ry h
  obtain ⟨l, b, xs, zs, rfl, rfl, hH, hB, hz, q⟩ := h
  cases rx
  cases ry
  obtain ⟨its, r, pl, z⟩ := I.list hH
  obtain ⟨its2, r2, pl2, z2⟩ := I.list hB
  obtain ⟨⟨cls, dd, data, sl⟩, n, ho, hc, hdd, hd⟩ := pl
  obtain ⟨⟨cls2, dd2, data2, sl2⟩, n2, ho2, hc2, hdd2, hd2⟩ := pl2
  simp only at hc hd hc2 hd2
  subst hc hd hc2 hd2
  have e : its.toArray ++ its2.toArray = (its ++ its2).toArray := by simp
  refine concat_meets ⟨_, ho, rfl⟩ ⟨_, ho2, rfl⟩ noFill_list_add seq_list_add PySem.F.slot_list_add PySem.F.entry_list_add (PySem.F.args_list_add_2 _ _) (list_addW l b its.toArray its2.toArray n n2 dd dd2 sl sl2 (by simp; rw [← r.length, ← r2.length]; exact hz)) ⟨ho, ho2, ?_⟩
  rw [e]
  exact ⟨.ref _, _, I.lnew (t' := s.toks) (r.append r2) (by rw [List.length_append]; omega), rfl, q _ I.fresh⟩

/-- a fresh object in the view -/
theorem view_at {S A : List Addr} {H : Hp} {M : Mem} (st : Sto K S A H M) {p : Addr} {o : HO} (hp : H p = none) : view S A (upd H p o) p = some o := off_of (st.fresh hp) upd_same

def dAddS : D → D → Option D
  | .str a, .str b => if a.length + b.length ≤ sizeLine then some (.str (a ++ b)) else none
  | _, _ => none
def dAddT : D → D → Option D
  | .tup a, .tup b => if a.length + b.length ≤ sizeLine then some (.tup (a ++ b)) else none
  | _, _ => none
def dAddL : D → D → Option D
  | .lst a, .lst b => if a.length + b.length ≤ sizeLine then some (.lst (a ++ b)) else none
  | _, _ => none
def dAdd : D → D → Option D
  | .int i, .int j => some (.int (i + j))
  | .str a, .str b => if a.length + b.length ≤ sizeLine then some (.str (a ++ b)) else none
  | .tup a, .tup b => if a.length + b.length ≤ sizeLine then some (.tup (a ++ b)) else none
  | .lst a, .lst b => if a.length + b.length ≤ sizeLine then some (.lst (a ++ b)) else none
  | _, _ => none
theorem op2_addS : Op2 K (fun x y H Q => ∃ i j, x = .str i ∧ y = .str j ∧ i.length + j.length ≤ sizeLine ∧ Q (.str (i ++ j)) H) dAddS := by
  intro S A M H x y z v u R st rx ry e k
  cases x <;> try (cases e)
  cases y <;> try (cases e)
  cases rx; cases ry
  unfold dAddS at e
  simp only at e
  split at e
  · rename_i hz
    cases e
    exact ⟨_, _, rfl, rfl, hz, k _ H (Same.refl _) rfl⟩
  · cases e
theorem op2_addT : Op2 K (rCatA K) dAddT := by
  intro S A M H x y z v u R st rx ry e k
  cases x <;> try (cases e)
  cases y <;> try (cases e)
  rename_i as bs
  obtain ⟨a, xs, rfl, hx, rx⟩ := rx
  obtain ⟨b, ys, rfl, hy, ry⟩ := ry
  unfold dAddT at e
  simp only at e
  split at e
  · rename_i hz
    cases e
    have lx := rx.len
    have ly := ry.len
    refine ⟨a, b, xs, ys, rfl, rfl, same_t off_sub hx, same_t off_sub hy, by omega, fun h0 => ?_, fun _ h0 => ?_, fun h0 h1 p hp => ?_⟩
    · subst h0
      have : as = [] := List.eq_nil_of_length_eq_zero (by simpa using lx.symm)
      subst this
      exact k _ H (Same.refl _) ⟨b, ys, rfl, hy, ry⟩
    · subst h0
      have : bs = [] := List.eq_nil_of_length_eq_zero (by simpa using ly.symm)
      subst this
      exact k _ H (Same.refl _) ⟨a, xs, rfl, hx, by rw [List.append_nil]; exact rx⟩
    · have sm := same_upd (o := .tup (xs ++ ys)) hp
      exact k _ _ sm ⟨p, xs ++ ys, rfl, .inl (.inl (view_at st hp)), Reps.app (Reps.mono (off_same sm) _ _ rx) (Reps.mono (off_same sm) _ _ ry)⟩
  · cases e

theorem op2_addL : Op2 K (rCatS K) dAddL := by
  intro S A M H x y z v u R st rx ry e k
  cases x <;> try (cases e)
  cases y <;> try (cases e)
  rename_i as bs
  obtain ⟨a, xs, rfl, hx, rx⟩ := rx
  obtain ⟨b, ys, rfl, hy, ry⟩ := ry
  unfold dAddL at e
  simp only at e
  split at e
  · rename_i hz
    cases e
    have lx := rx.len
    have ly := ry.len
    refine ⟨a, b, xs, ys, rfl, rfl, hx, hy, by omega, fun p hp => ?_⟩
    have sm := same_upd (o := .lst (xs ++ ys)) hp
    exact k _ _ sm ⟨p, xs ++ ys, rfl, .inl (.inl (view_at st hp)), Reps.app (Reps.mono (off_same sm) _ _ rx) (Reps.mono (off_same sm) _ _ ry)⟩
  · cases e
theorem qe_add {a b : Expr} {wa wb : WE} {pos : Pos} (ha : QE J X a wa) (hb : QE J X b wb) : QE J X (.BinOp a .Add b pos) (wOp dAdd wa wb) := by
  obtain ⟨ta, pa, da⟩ := ha
  obtain ⟨tb, pb, db⟩ := hb
  refine ⟨_, pe_op ((op_add.or op_add_str).or (op_catA.or op_catS)) pa pb, dn_op (Op2.sub (((op2_I0 (g := fun i j => .int (i + j)) fun _ _ _ => rfl).or op2_addS).or (op2_addT.or op2_addL)) fun x y z e => ?_) da db⟩
  cases x <;> cases y <;> first | exact e | (cases e; done) | (simp only [dAdd] at e; simp [dI0,dAddS,dAddT,dAddL,e])
theorem qe_sub {a b : Expr} {wa wb : WE} {pos : Pos} (ha : QE J X a wa) (hb : QE J X b wb) : QE J X (.BinOp a .Sub b pos) (wOp (dI0 fun i j => .int (i - j)) wa wb) := by
  obtain ⟨ta, pa, da⟩ := ha
  obtain ⟨tb, pb, db⟩ := hb
  exact ⟨_, pe_op op_sub pa pb, dn_op (op2_I0 fun _ _ _ => rfl) da db⟩
instance (i j : Int) : Decidable (CMul i j) := by unfold CMul; infer_instance
instance (i j : Int) : Decidable (CDiv i j) := by unfold CDiv; infer_instance
instance (i j : Int) : Decidable (CPow i j) := by unfold CPow; infer_instance
end
end Dw
set_option Elab.async false
set_option linter.all false
set_option maxRecDepth 100000
set_option maxHeartbeats 4000000
/-! DwZ: tuple * int where the int is below two, or the tuple empty. -/
namespace Dw
open PySem PySem.Spec PyProof.Rows L2
theorem tup_mul_same (l : Addr) (items : Array Value) (n : Nat) (dd : Option Addr) (sl : Array (Option Value)) (x : Int) (u : Tok) (c0 : (decide (x < -(2 ^ 63)) || decide (x ≥ 2 ^ 63)) = false) (c1 : (items.isEmpty || x == 1) = true) :
    Meets (Builtin.«tuple.__mul__» ⟨[.ref l, .int x u], []⟩) (fun _ R s => s.heap.get? l = some { cls := .type "tuple", dict := dd, data := .seq items n, slots := sl } ∧ R (.ok (.ret (Value.ref l))) s) :=
  .of_wp fun prog w A R s h => by
    obtain ⟨hp, g, d, tk, os⟩ := s
    obtain ⟨hl, h⟩ := h
    have f1 := AutoSeq1.idx_int
    wp_walk using wpAny_loadPart' hl
    repeat (first
      | (refine wpAny_ite_false (decide_eq_false (by rw [c0]; exact Bool.false_ne_true)) ?_; wp_walk using wpAny_loadPart' hl)
      | (refine wpAny_ite_true (decide_eq_true (by rw [c1])) ?_; wp_walk using wpAny_loadPart' hl))
    exact ⟨_, rfl, h⟩
theorem tup_mul_none (l : Addr) (items : Array Value) (n : Nat) (dd : Option Addr) (sl : Array (Option Value)) (x : Int) (u : Tok) (c0 : (decide (x < -(2 ^ 63)) || decide (x ≥ 2 ^ 63)) = false) (c1 : (items.isEmpty || x == 1) = false) (c2 : (decide (x ≤ 0) || items.isEmpty) = true) :
    Meets (Builtin.«tuple.__mul__» ⟨[.ref l, .int x u], []⟩) (fun _ R s => s.heap.get? l = some { cls := .type "tuple", dict := dd, data := .seq items n, slots := sl } ∧
      R (.ok (.ret (Value.ref s.heap.objs.size))) { s with heap := s.heap.push { cls := Value.type "tuple", data := Data.seq #[] }, toks := s.toks }) :=
  .of_wp fun prog w A R s h => by
    obtain ⟨hp, g, d, tk, os⟩ := s
    obtain ⟨hl, h⟩ := h
    have f1 := AutoSeq1.idx_int
    wp_walk using wpAny_loadPart' hl
    repeat (first
      | (refine wpAny_ite_false (decide_eq_false (by rw [c0]; exact Bool.false_ne_true)) ?_; wp_walk using wpAny_loadPart' hl)
      | (refine wpAny_ite_false (decide_eq_false (by rw [c1]; exact Bool.false_ne_true)) ?_; wp_walk using wpAny_loadPart' hl)
      | (refine wpAny_ite_true (decide_eq_true (by rw [c2])) ?_; wp_walk using wpAny_loadPart' hl))
    exact ⟨_, rfl, h⟩
def rRepU (K : PySem.W.Frag) : R2 := fun x y H Q => ∃ l k xs, x = .ref l ∧ y = .int k ∧ SqT K H l xs ∧ -1000 ≤ k ∧ k ≤ 1000 ∧ (((xs = [] ∨ k = 1) ∧ Q (.ref l) H) ∨ (xs ≠ [] ∧ k ≤ 0 ∧ ∀ p, H p = none → Q (.ref p) (upd H p (.tup []))))
theorem op_repU {X : Cx} : OpR X (binaryOp .Mult) (rRepU X.K) := by
  intro pins s σ H x y v u Q I rx ry h
  obtain ⟨l, k, xs, rfl, rfl, hT, h1, h2, h⟩ := h
  cases rx
  obtain ⟨t, rfl⟩ := ry
  obtain ⟨its, r, ⟨⟨cls, dd, data, sl⟩, ho, hc, n, hd⟩, hs⟩ := I.tuple hT
  simp only at hc hd
  subst hc hd
  have hle : its.length = xs.length := r.length.symm
  have c0 : (decide (k < -(2 ^ 63)) || decide (k ≥ 2 ^ 63)) = false := by rw [decide_eq_false (by omega), decide_eq_false (by omega)] <;> rfl
  have emp : its.toArray.isEmpty = xs.isEmpty := by
    cases its with
    | nil => cases xs with
      | nil => rfl
      | cons a b => simp at hle
    | cons a b => cases xs with
      | nil => simp at hle
      | cons a b => rfl
  have fin : ∀ {Q' : Result → Shared → Prop}, True := trivial
  rcases h with ⟨hx, q⟩ | ⟨hx, hk, q⟩
  · have c1 : (its.toArray.isEmpty || k == 1) = true := by
      rw [emp]
      rcases hx with rfl | rfl
      · rfl
      · simp
    refine wpAny_binaryOp_repeat_ref (T := "tuple") (U := "int") (by decide) ⟨_, ho, rfl⟩ (fun s' => typeIs_int s' k t) noFill_tuple_mul F.fills_int_mul F.slot_int_rmul repeat_tuple F.slot_int_index.lookup
      (call_meets F.slot_int_rmul (typeIs_int s k t) F.entry_int_rmul (F.args_int_rmul_2 _ _) (int_rmul_tuple k t l its.toArray n dd sl)
        ⟨ho, rfl, ⟨_, ho, rfl⟩, call_meets F.slot_tuple_mul ⟨_, ho, rfl⟩ F.entry_tuple_mul (F.args_tuple_mul_2 _ _) (tup_mul_same l its.toArray n dd sl k t c0 c1) ⟨ho, ?_⟩⟩)
    exact ⟨.ref l, H, I, rfl, q⟩
  · have c1 : (its.toArray.isEmpty || k == 1) = false := by
      rw [emp, Bool.or_eq_false_iff]
      exact ⟨by cases xs with
        | nil => exact absurd rfl hx
        | cons a b => rfl, beq_eq_false_iff_ne.mpr (by omega)⟩
    have c2 : (decide (k ≤ 0) || its.toArray.isEmpty) = true := by rw [decide_eq_true hk]; rfl
    refine wpAny_binaryOp_repeat_ref (T := "tuple") (U := "int") (by decide) ⟨_, ho, rfl⟩ (fun s' => typeIs_int s' k t) noFill_tuple_mul F.fills_int_mul F.slot_int_rmul repeat_tuple F.slot_int_index.lookup
      (call_meets F.slot_int_rmul (typeIs_int s k t) F.entry_int_rmul (F.args_int_rmul_2 _ _) (int_rmul_tuple k t l its.toArray n dd sl)
        ⟨ho, rfl, ⟨_, ho, rfl⟩, call_meets F.slot_tuple_mul ⟨_, ho, rfl⟩ F.entry_tuple_mul (F.args_tuple_mul_2 _ _) (tup_mul_none l its.toArray n dd sl k t c0 c1 c2) ⟨ho, ?_⟩⟩)
    refine ⟨.ref s.heap.objs.size, _, I.laid (t' := s.toks) (o := .tup []) (fun b ob z => Heap.get?_push_of_some _ z) (Nat.le_refl _) ?_, rfl, q _ (I.hok.fresh (Nat.le_refl _))⟩
    exact ⟨Nat.zero_le _, [], .nil, IsTup.new _ _⟩
end Dw
set_option Elab.async false
set_option linter.all false
set_option maxRecDepth 100000
set_option maxHeartbeats 4000000
/-! Dw3: operators, comparisons, tests, displays, subscripts, slices. -/
namespace Dw
open PySem PySem.Spec PyProof.Rows L2
def strRep (x : Str) (n : Int) : Str := ⟨(List.replicate n.toNat x.cps.toList).flatten.toArray⟩
theorem strRep_len (x : Str) (n : Int) : (strRep x n).length = n.toNat * x.length := by
  show (List.replicate n.toNat x.cps.toList).flatten.toArray.size = _
  rw [List.size_toArray, List.length_flatten, List.map_replicate, List.sum_replicate_nat]
  rfl
theorem fold_rep (l : List Nat) : ∀ (n : Nat) (a : Array Nat), (List.replicate n l.toArray).foldl (· ++ ·) a = a ++ (List.replicate n l).flatten.toArray
  | 0, a => by simp
  | n + 1, a => by
    rw [List.replicate_succ, List.foldl_cons, fold_rep l n, List.replicate_succ, List.flatten_cons]
    simp
def rRepS : R2 := fun x y H Q => ∃ z k, x = .str z ∧ y = .int k ∧ z.length ≤ 1000 ∧ -1000 ≤ k ∧ k ≤ 1000 ∧ Q (.str (strRep z k)) H
theorem op_repS {X : Cx} : OpR X (binaryOp .Mult) rRepS := by
  intro pins s σ H x y v u Q I rx ry h
  obtain ⟨z, k, rfl, rfl, h1, h2, h3, q⟩ := h
  obtain ⟨t, rfl⟩ := rx
  obtain ⟨t', rfl⟩ := ry
  refine PySem.P.mul_str ?_ (fun h4 h5 => ?_) (fun h4 h5 => ?_) ?_
  · rw [decide_eq_false (by omega), decide_eq_false (by omega)]; rfl
  · have : (1000 : Int) ≤ (2 ^ 63 - 1) / k := by
      rw [Int.le_ediv_iff_mul_le (by omega)]; omega
    omega
  · unfold Builtin.Str.tooLong
    refine decide_eq_false ?_
    have : z.length * k.toNat ≤ 1000 * 1000 := Nat.mul_le_mul h1 (by omega)
    rw [sizeLine_eq]; omega
  · have hz : (strRep z k).length ≤ sizeLine := by
      rw [strRep_len]
      have : k.toNat * z.length ≤ 1000 * 1000 := Nat.mul_le_mul (by omega) h1
      rw [sizeLine_eq]; omega
    by_cases h4 : k < 1
    · rw [if_pos h4]
      have e : strRep z k = Str.empty := by
        unfold strRep
        rw [show k.toNat = 0 by omega]; rfl
      rw [e] at q hz
      exact ⟨hz, .str Str.empty, H, I.tok _, ⟨_, rfl⟩, q⟩
    · rw [if_neg h4]
      by_cases h5 : (k == 1 || z.length == 0) = true
      · rw [if_pos h5]
        have e : strRep z k = z := by
          rw [Bool.or_eq_true] at h5
          rcases h5 with h5 | h5
          · have h6 : k = 1 := by simpa using h5
            subst h6
            unfold strRep
            show (⟨(List.replicate 1 z.cps.toList).flatten.toArray⟩ : Str) = z
            simp
          · have h6 : z.cps = #[] := by
              have h7 : z.length = 0 := by simpa using h5
              have : z.cps.size = 0 := h7
              exact Array.eq_empty_of_size_eq_zero this
            unfold strRep
            cases z
            simp at h6
            subst h6
            simp
        rw [e] at q
        exact ⟨.str z, H, I, ⟨t, rfl⟩, q⟩
      · rw [if_neg h5]
        have e : (⟨(List.replicate k.toNat z.cps).foldl (· ++ ·) #[]⟩ : Str) = strRep z k := by
          unfold strRep
          have := fold_rep z.cps.toList k.toNat #[]
          simp at this
          simp [this]
        rw [e]
        exact ⟨hz, .str (strRep z k), H, I.tok _, ⟨_, rfl⟩, q⟩
def dRepS : D → D → Option D
  | .str a, .int k => if a.length ≤ 1000 ∧ -1000 ≤ k ∧ k ≤ 1000 then some (.str (strRep a k)) else none
  | _, _ => none
theorem op2_repS {K : PySem.W.Frag} : Op2 K rRepS dRepS := by
  intro S A M H x y z v u R st rx ry e k
  cases x with
  | str as =>
    cases y with
    | int i =>
      cases rx; cases ry
      have e : (if as.length ≤ 1000 ∧ -1000 ≤ i ∧ i ≤ 1000 then some (D.str (strRep as i)) else none) = some z := e
      split at e
      · rename_i hz
        cases e
        exact ⟨as, i, rfl, rfl, hz.1, hz.2.1, hz.2.2, k _ H (Same.refl _) rfl⟩
      · cases e
    | _ => cases e
  | _ => cases e
section
variable {X : Cx} {K : PySem.W.Frag} {a b c : Expr} {wa wb wc : WE} {pos : Pos}
/-! ### more arithmetic -/
theorem qe_op1 {op : Operator} {r : R2} {f : D → D → Option D} (ho : OpR X (binaryOp op) r) (h2 : Op2 X.K r f) (ha : QE J X a wa) (hb : QE J X b wb) : QE J X (.BinOp a op b pos) (wOp f wa wb) := by
  obtain ⟨ta, pa, da⟩ := ha
  obtain ⟨tb, pb, db⟩ := hb
  exact ⟨_, pe_op ho pa pb, dn_op h2 da db⟩
/-- a tuple times at most 1000 -/
def dRepT : D → D → Option D
  | .tup a, .int k => if -1000 ≤ k ∧ k ≤ 1000 ∧ a.length ≤ 1000 then some (.tup (List.replicate k.toNat a).flatten) else none
  | _, _ => none
theorem Reps.rep {h : Hp} {ds : List D} {vs : List V} (r : Reps K h ds vs) : ∀ n : Nat, Reps K h (List.replicate n ds).flatten (List.replicate n vs).flatten
  | 0 => rfl
  | n + 1 => by
    rw [List.replicate_succ, List.replicate_succ, List.flatten_cons, List.flatten_cons]
    exact Reps.app r (Reps.rep r n)
theorem op2_repT : Op2 K (fun x y H Q => rRepT K x y H Q ∨ rRepU K x y H Q) dRepT := by
  intro S A M H x y z v u R st rx ry e k
  cases x with
  | tup as =>
    cases y with
    | int i =>
      obtain ⟨l, xs, rfl, hx, rx⟩ := rx
      cases ry
      have e : (if -1000 ≤ i ∧ i ≤ 1000 ∧ as.length ≤ 1000 then some (D.tup (List.replicate i.toNat as).flatten) else none) = some z := e
      split at e
      · rename_i hz
        obtain ⟨h1, h2, h3⟩ := hz
        cases e
        have lx := rx.len
        by_cases hn : xs = []
        · subst hn
          have ea : as = [] := List.eq_nil_of_length_eq_zero (by simpa using lx.symm)
          subst ea
          refine .inr ⟨l, i, [], rfl, rfl, same_t off_sub hx, h1, h2, .inl ⟨.inl rfl, k _ H (Same.refl _) ?_⟩⟩
          rw [show (List.replicate i.toNat ([] : List D)).flatten = [] from by rw [List.flatten_eq_nil_iff]; intro l hl; exact List.eq_of_mem_replicate hl]
          exact ⟨l, [], rfl, hx, rfl⟩
        · by_cases h4 : i = 1
          · subst h4
            refine .inr ⟨l, 1, xs, rfl, rfl, same_t off_sub hx, h1, h2, .inl ⟨.inr rfl, k _ H (Same.refl _) ?_⟩⟩
            rw [show (List.replicate (1 : Int).toNat as).flatten = as by simp [List.replicate]]
            exact ⟨l, xs, rfl, hx, rx⟩
          · by_cases h5 : i ≤ 0
            · refine .inr ⟨l, i, xs, rfl, rfl, same_t off_sub hx, h1, h2, .inr ⟨hn, h5, fun p hp => ?_⟩⟩
              have sm := same_upd (o := .tup []) hp
              rw [show i.toNat = 0 by omega] at k
              exact k _ _ sm ⟨p, [], rfl, .inl (.inl (view_at st hp)), rfl⟩
            · refine .inl ⟨l, i, xs, rfl, rfl, same_t off_sub hx, hn, by omega, h2, by omega, fun p hp => ?_⟩
              have sm := same_upd (o := .tup (List.replicate i.toNat xs).flatten) hp
              exact k _ _ sm ⟨p, _, rfl, .inl (.inl (view_at st hp)), Reps.rep (Reps.mono (off_same sm) _ _ rx) _⟩
      · cases e
    | _ => cases e
  | _ => cases e
def dMul : D → D → Option D
  | .int i, .int j => if CMul i j then some (.int (i * j)) else none
  | x, y => (dRepT x y).or (dRepS x y)
theorem qe_mul (ha : QE J X a wa) (hb : QE J X b wb) : QE J X (.BinOp a .Mult b pos) (wOp dMul wa wb) := by
  refine qe_op1 (op_mul.or ((op_repT.or op_repU).or op_repS)) (Op2.sub ((op2_I (p := fun i j => decide (CMul i j)) (g := fun i j => .int (i * j)) (fun _ _ h => of_decide_eq_true h) fun _ _ _ => rfl).or (op2_repT.or op2_repS)) fun x y z e => ?_) ha hb
  cases x <;> cases y <;> first | exact e | (cases e; done) | (simp only [dMul] at e; simp [dI2,dRepT,dRepS,e])
def dMod : D → D → Option D := dI2 (fun _ j => decide (0 < j)) fun i j => .int (i % j)
theorem qe_mod (ha : QE J X a wa) (hb : QE J X b wb) : QE J X (.BinOp a .Mod b pos) (wOp dMod wa wb) :=
  qe_op1 op_mod (op2_I (fun _ _ h => of_decide_eq_true h) fun _ _ _ => rfl) ha hb
def dFdiv : D → D → Option D := dI2 (fun i j => decide (CDiv i j)) fun i j => .int (i / j)
theorem qe_fdiv (ha : QE J X a wa) (hb : QE J X b wb) : QE J X (.BinOp a .FloorDiv b pos) (wOp dFdiv wa wb) :=
  qe_op1 op_fdiv (op2_I (fun _ _ h => of_decide_eq_true h) fun _ _ _ => rfl) ha hb
def dPow : D → D → Option D := dI2 (fun i j => decide (CPow i j)) fun i j => .int (i ^ j.toNat)
theorem qe_pow (ha : QE J X a wa) (hb : QE J X b wb) : QE J X (.BinOp a .Pow b pos) (wOp dPow wa wb) :=
  qe_op1 op_pow (op2_I (fun _ _ h => of_decide_eq_true h) fun _ _ _ => rfl) ha hb
/-- -a -/
def wNeg (wa : WE) : WE := fun env M Q => wa env M fun x M1 => ∃ i, x = .d (.int i) ∧ Q (.d (.int (-i))) M1
theorem qe_neg (ha : QE J X a wa) : QE J X (.UnaryOp .USub a pos) (wNeg wa) := by
  obtain ⟨ta, pa, da⟩ := ha
  refine ⟨_, pe_un un_neg pa, fun env M Q hw S A σ H R st en k => ?_⟩
  refine da env M _ hw S A σ H _ st en fun v H1 x M1 A1 p1 s1 q1 ⟨i, e, hq⟩ => ?_
  subst e
  cases q1
  exact ⟨i, rfl, k (.int (-i)) H1 (.d (.int (-i))) M1 A1 p1 s1 (show V.int (-i) = V.int (-i) from rfl) hq⟩

/-! ### comparisons -/
theorem qe_cmp1 {op : CmpOp} {r : R2} {f : D → D → Option D} (ho : OpR X (compareOp op) r) (h2 : Op2 X.K r f) (ha : QE J X a wa) (hb : QE J X b wb) (hm : behindInMarks op b = false) : QE J X (.Compare a [op] [b] pos) (wOp f wa wb) := by
  obtain ⟨ta, pa, da⟩ := ha
  obtain ⟨tb, pb, db⟩ := hb
  exact ⟨_, pe_cmpR ho pa pb hm, dn_op h2 da db⟩
def dS2 (g : Str → Str → D) : D → D → Option D
  | .str i, .str j => some (g i j)
  | _, _ => none
theorem op2_S {g : Str → Str → D} {gv : Str → Str → V} (hg : ∀ (h : Hp) i j, Rep K h (g i j) (gv i j)) : Op2 K (fun x y H Q => ∃ i j, x = .str i ∧ y = .str j ∧ Q (gv i j) H) (dS2 g) := by
  intro S A M H x y z v u R st rx ry e k
  cases x <;> try (cases e)
  cases y <;> try (cases e)
  cases rx
  cases ry
  exact ⟨_, _, rfl, rfl, k _ H (Same.refl _) (hg _ _ _)⟩
def dLt : D → D → Option D
  | .int i, .int j => some (.bl (decide (i < j)))
  | .str i, .str j => some (.bl (decide (i.cps.toList < j.cps.toList)))
  | _, _ => none
def dLe : D → D → Option D
  | .int i, .int j => some (.bl (decide (i ≤ j)))
  | .str i, .str j => some (.bl (!decide (j.cps.toList < i.cps.toList)))
  | _, _ => none
def dGt : D → D → Option D
  | .int i, .int j => some (.bl (decide (j < i)))
  | .str i, .str j => some (.bl (decide (j.cps.toList < i.cps.toList)))
  | _, _ => none
def dGe : D → D → Option D
  | .int i, .int j => some (.bl (decide (j ≤ i)))
  | .str i, .str j => some (.bl (!decide (i.cps.toList < j.cps.toList)))
  | _, _ => none
theorem op2_lt : Op2 K (fun x y H Q => rI0 (fun i j => .bl (decide (i < j))) x y H Q ∨ ∃ i j, x = .str i ∧ y = .str j ∧ Q (.bl (decide (i.cps.toList < j.cps.toList))) H) dLt :=
  Op2.sub ((op2_I0 (g := fun i j => .bl (decide (i < j))) fun _ _ _ => rfl).or (op2_S (g := fun i j => .bl (decide (i.cps.toList < j.cps.toList))) fun _ _ _ => rfl)) fun x y z e => by
    cases x <;> cases y <;> first | exact e | (cases e; done)
theorem op2_le : Op2 K (fun x y H Q => rI0 (fun i j => .bl (decide (i ≤ j))) x y H Q ∨ ∃ i j, x = .str i ∧ y = .str j ∧ Q (.bl (!decide (j.cps.toList < i.cps.toList))) H) dLe :=
  Op2.sub ((op2_I0 (g := fun i j => .bl (decide (i ≤ j))) fun _ _ _ => rfl).or (op2_S (g := fun i j => .bl (!decide (j.cps.toList < i.cps.toList))) fun _ _ _ => rfl)) fun x y z e => by
    cases x <;> cases y <;> first | exact e | (cases e; done)
theorem op2_gt : Op2 K (fun x y H Q => rI0 (fun i j => .bl (decide (j < i))) x y H Q ∨ ∃ i j, x = .str i ∧ y = .str j ∧ Q (.bl (decide (j.cps.toList < i.cps.toList))) H) dGt :=
  Op2.sub ((op2_I0 (g := fun i j => .bl (decide (j < i))) fun _ _ _ => rfl).or (op2_S (g := fun i j => .bl (decide (j.cps.toList < i.cps.toList))) fun _ _ _ => rfl)) fun x y z e => by
    cases x <;> cases y <;> first | exact e | (cases e; done)
theorem op2_ge : Op2 K (fun x y H Q => rI0 (fun i j => .bl (decide (j ≤ i))) x y H Q ∨ ∃ i j, x = .str i ∧ y = .str j ∧ Q (.bl (!decide (i.cps.toList < j.cps.toList))) H) dGe :=
  Op2.sub ((op2_I0 (g := fun i j => .bl (decide (j ≤ i))) fun _ _ _ => rfl).or (op2_S (g := fun i j => .bl (!decide (i.cps.toList < j.cps.toList))) fun _ _ _ => rfl)) fun x y z e => by
    cases x <;> cases y <;> first | exact e | (cases e; done)
theorem or_lt : OpR X (compareOp .Lt) (fun x y H Q => rI0 (fun i j => .bl (decide (i < j))) x y H Q ∨ ∃ i j, x = .str i ∧ y = .str j ∧ Q (.bl (decide (i.cps.toList < j.cps.toList))) H) := op_lt.or op_lt_str
theorem or_le : OpR X (compareOp .LtE) (fun x y H Q => rI0 (fun i j => .bl (decide (i ≤ j))) x y H Q ∨ ∃ i j, x = .str i ∧ y = .str j ∧ Q (.bl (!decide (j.cps.toList < i.cps.toList))) H) := op_le.or op_le_str
theorem or_gt : OpR X (compareOp .Gt) (fun x y H Q => rI0 (fun i j => .bl (decide (j < i))) x y H Q ∨ ∃ i j, x = .str i ∧ y = .str j ∧ Q (.bl (decide (j.cps.toList < i.cps.toList))) H) := op_gt.or op_gt_str
theorem or_ge : OpR X (compareOp .GtE) (fun x y H Q => rI0 (fun i j => .bl (decide (j ≤ i))) x y H Q ∨ ∃ i j, x = .str i ∧ y = .str j ∧ Q (.bl (!decide (i.cps.toList < j.cps.toList))) H) := op_ge.or op_ge_str
theorem qe_lt (ha : QE J X a wa) (hb : QE J X b wb) : QE J X (.Compare a [.Lt] [b] pos) (wOp dLt wa wb) := qe_cmp1 or_lt op2_lt ha hb (nomark _)
theorem qe_le (ha : QE J X a wa) (hb : QE J X b wb) : QE J X (.Compare a [.LtE] [b] pos) (wOp dLe wa wb) := qe_cmp1 or_le op2_le ha hb (nomark _)
theorem qe_gt (ha : QE J X a wa) (hb : QE J X b wb) : QE J X (.Compare a [.Gt] [b] pos) (wOp dGt wa wb) := qe_cmp1 or_gt op2_gt ha hb (nomark _)
theorem qe_ge (ha : QE J X a wa) (hb : QE J X b wb) : QE J X (.Compare a [.GtE] [b] pos) (wOp dGe wa wb) := qe_cmp1 or_ge op2_ge ha hb (nomark _)

/-! ### == -/
mutual
def D.py : D → Option PyData
  | .non => some .none
  | .bl b => some (.bool b)
  | .int i => some (.int i)
  | .str x => some (.str x)
  | .tup ds => (D.pys ds).map .tuple
  | .lst ds => (D.pys ds).map .list
  | .ty _ => none
  | .ref _ => none
  | .dct _ _ => none
def D.pys : List D → Option (List PyData)
  | [] => some []
  | d :: ds => match D.py d, D.pys ds with
    | some a, some b => some (a :: b)
    | _, _ => none
end
mutual
theorem Rep.dp {H h : Hp} (e : Same h H) : ∀ (d : D) (v : V) (p : PyData), Rep K h d v → d.py = some p → Dp K H v p
  | .non, _, _, r, q => by cases r; simp [D.py] at q; subst q; exact .non
  | .bl b, _, _, r, q => by cases r; simp [D.py] at q; subst q; exact .bl b
  | .int i, _, _, r, q => by cases r; simp [D.py] at q; subst q; exact .int i
  | .str x, _, _, r, q => by cases r; simp [D.py] at q; subst q; exact .str x
  | .tup ds, _, p, ⟨a, vs, e1, e2, e3⟩, q => by
    subst e1
    cases z : D.pys ds with
    | none => simp [D.py, z] at q
    | some ps => simp [D.py, z] at q; subst q; exact .tup (same_t e e2) (Reps.dp e ds vs ps e3 z)
  | .lst ds, _, p, ⟨a, vs, e1, e2, e3⟩, q => by
    subst e1
    cases z : D.pys ds with
    | none => simp [D.py, z] at q
    | some ps => simp [D.py, z] at q; subst q; exact .lst (same_l e e2) (Reps.dp e ds vs ps e3 z)
  | .ty _, _, _, _, q => by simp [D.py] at q
  | .ref _, _, _, _, q => by simp [D.py] at q
  | .dct _ _, _, _, _, q => by simp [D.py] at q
theorem Reps.dp {H h : Hp} (e : Same h H) : ∀ (ds : List D) (vs : List V) (ps : List PyData), Reps K h ds vs → D.pys ds = some ps → DpAll K H vs ps
  | [], _, _, r, q => by cases r; simp [D.pys] at q; subst q; exact .nil
  | d :: ds, _, ps, ⟨v, us, e1, e2, e3⟩, q => by
    subst e1
    cases z : D.py d with
    | none => simp [D.pys, z] at q
    | some a =>
      cases y : D.pys ds with
      | none => simp [D.pys, z, y] at q
      | some b => simp [D.pys, z, y] at q; subst q; exact .cons (Rep.dp e d v a e2 z) (Reps.dp e ds us b e3 y)
end
theorem RepF.dp {H h : Hp} (e : Same h H) {d : D} {v : V} {p : PyData} (r : RepF K H h d v) (q : d.py = some p) : Dp K H v p := by
  cases d with
  | lst ds =>
    obtain ⟨a, vs, rfl, e2, e3⟩ := r
    cases z : D.pys ds with
    | none => simp [D.py, z] at q
    | some ps => simp [D.py, z] at q; subst q; exact .lst e2 (Reps.dp e ds vs ps e3 z)
  | _ => exact Rep.dp e _ _ _ r q
/-- data that may be compared: texts of signs, at most 64 deep -/
def D.ok (d : D) : Bool := match d.py with
  | some p => SeqAt.shaped p
  | none => false
def D.eqb (x y : D) : Bool := match x.py, y.py with
  | some a, some b => PyData.eqv a b
  | _, _ => false
def dEqF : D → D → Option D
  | .int i, .int j => some (.bl (decide (i = j)))
  | .str i, .str j => some (.bl (decide (i = j)))
  | .bl i, .bl j => some (.bl (decide (i = j)))
  | .non, .int _ => some (.bl false) | .int _, .non => some (.bl false)
  | .non, .str _ => some (.bl false) | .str _, .non => some (.bl false)
  | .int _, .str _ => some (.bl false) | .str _, .int _ => some (.bl false)
  | _, _ => none
def dEqD (x y : D) : Option D := if x.ok && y.ok then some (.bl (x.eqb y)) else none
def dEq (x y : D) : Option D := (dEqF x y).or (dEqD x y)
theorem op2_eqF : Op2 K rEq dEqF := by
  intro S A M H x y z v u R st rx ry e k
  cases x <;> cases y <;> first | (cases e; done) | (cases rx; cases ry; cases e; first | exact ⟨rfl, k _ H (Same.refl _) (by simp [Rep])⟩)
theorem op2_neF : Op2 K rNe (fun x y => (dEqF x y).map fun | .bl b => .bl (!b) | d => d) := by
  intro S A M H x y z v u R st rx ry e k
  cases x <;> cases y <;> first | (cases e; done) | (cases rx; cases ry; cases e; first | exact ⟨rfl, k _ H (Same.refl _) (by simp [Rep])⟩)
theorem dok {d : D} (h : d.ok = true) : ∃ p, d.py = some p ∧ SeqAt.shaped p = true := by
  unfold D.ok at h
  cases z : d.py with
  | none => rw [z] at h; cases h
  | some p => rw [z] at h; exact ⟨p, rfl, h⟩
theorem op2_eqD : Op2 K (rEqD K) dEqD := by
  intro S A M H x y z v u R st rx ry e k
  unfold dEqD at e
  split at e
  · rename_i hz
    rw [Bool.and_eq_true] at hz
    obtain ⟨p, e1, s1⟩ := dok hz.1
    obtain ⟨q, e2, s2⟩ := dok hz.2
    cases e
    refine ⟨p, q, RepF.dp off_sub rx e1, RepF.dp off_sub ry e2, s1, s2, k _ H (Same.refl _) ?_⟩
    simp [Rep, D.eqb, e1, e2]
  · cases e
theorem op2_neD : Op2 K (rNeD K) (fun x y => (dEqD x y).map fun | .bl b => .bl (!b) | d => d) := by
  intro S A M H x y z v u R st rx ry e k
  dsimp only [dEqD] at e
  split at e
  · rename_i hz
    rw [Bool.and_eq_true] at hz
    obtain ⟨p, e1, s1⟩ := dok hz.1
    obtain ⟨q, e2, s2⟩ := dok hz.2
    simp only [Option.map_some,Option.some.injEq] at e
    subst e
    refine ⟨p, q, RepF.dp off_sub rx e1, RepF.dp off_sub ry e2, s1, s2, k _ H (Same.refl _) ?_⟩
    simp [Rep, D.eqb, e1, e2]
  · cases e
def dNe (x y : D) : Option D := (dEq x y).map fun | .bl b => .bl (!b) | d => d
theorem qe_eq (hu : X.A.units + 64 < cLine) (ha : QE J X a wa) (hb : QE J X b wb) : QE J X (.Compare a [.Eq] [b] pos) (wOp dEq wa wb) := qe_cmp1 (op_eq.or (op_eqD hu)) (op2_eqF.or op2_eqD) ha hb (nomark _)
theorem qe_ne (hu : X.A.units + 64 < cLine) (ha : QE J X a wa) (hb : QE J X b wb) : QE J X (.Compare a [.NotEq] [b] pos) (wOp dNe wa wb) :=
  qe_cmp1 (op_ne.or (op_neD hu)) (Op2.sub (op2_neF.or op2_neD) fun x y z e => by
    unfold dNe dEq at e
    cases h : dEqF x y with
    | none => simp only [h] at e ⊢; exact e
    | some w => simp only [h] at e ⊢; exact e) ha hb (nomark _)
end
end Dw
set_option Elab.async false
set_option linter.all false
set_option maxRecDepth 100000
set_option maxHeartbeats 4000000
/-! Dw4: is, in, chains, tests, displays, subscripts, slices, calls of built-ins. -/
namespace Dw
open PySem PySem.Spec PyProof.Rows L2
section
variable {X : Cx} {K : PySem.W.Frag} {a b c e : Expr} {es rest : List Expr} {wa wb wc we : WE} {wt wu : WT} {ws : WA} {pos : Pos}
/-! ### is -/
def D.isN : D → Bool
  | .non => true
  | _ => false
def D.isB (j : Bool) : D → Bool
  | .bl i => decide (i = j)
  | _ => false
def dIs : D → D → Option D
  | x, .bl j => some (.bl (x.isB j))
  | x, .non => some (.bl x.isN)
  | _, _ => none
def NoBlt (x : V) : Prop := ∀ v, RelV x v → ∀ b, plainIs v (.bool b) = true
theorem noBlt {K : PySem.W.Frag} {H h : Hp} {x : D} {v : V} (r : RepF K H h x v) : NoBlt v := by
  intro u ru b
  cases x with
  | tup ds => obtain ⟨a, vs, rfl, _⟩ := r; cases (show u = Value.ref a from ru); rfl
  | lst ds => obtain ⟨a, vs, rfl, _⟩ := r; cases (show u = Value.ref a from ru); rfl
  | dct ks ds => obtain ⟨a, vs, rfl, _⟩ := r; cases (show u = Value.ref a from ru); rfl
  | bl i => cases r; cases (show u = Value.bool i from ru); rfl
  | non => cases r; cases (show u = Value.none from ru); rfl
  | int i => cases r; obtain ⟨t, rfl⟩ := ru; rfl
  | str i => cases r; obtain ⟨t, rfl⟩ := ru; rfl
  | ty i => cases r; cases (show u = Value.type i from ru); rfl
  | ref i => cases r; cases (show u = Value.ref i from ru); rfl
theorem op_isB {X : Cx} : OpR X (compareOp .Is) (fun x y H Q => ∃ b, y = .bl b ∧ NoBlt x ∧ Q (.bl (decide (x = .bl b))) H) := by
  intro pins s σ H x y v u Q I rx ry h
  obtain ⟨b, rfl, nb, q⟩ := h
  cases (show u = Value.bool b from ry)
  by_cases e : x = .bl b
  · subst e
    have rx' := rx
    cases (show v = Value.bool b from rx')
    exact wpAny_is_self (nb _ rx _) ⟨.bl true, H, I, rfl, by simpa using q⟩
  · have ne : v ≠ .bool b := fun z => e (by
      subst z
      cases x <;> first | (cases rx; done) | (obtain ⟨t, z⟩ := rx; cases z; done) | skip
      cases (show Value.bool b = Value.bool _ from rx); rfl)
    exact wpAny_is_other (nb _ rx _) ne ⟨.bl false, H, I, rfl, by simpa [e] using q⟩
theorem op_isNotB {X : Cx} : OpR X (compareOp .IsNot) (fun x y H Q => ∃ b, y = .bl b ∧ NoBlt x ∧ Q (.bl (!decide (x = .bl b))) H) := by
  intro pins s σ H x y v u Q I rx ry h
  obtain ⟨b, rfl, nb, q⟩ := h
  cases (show u = Value.bool b from ry)
  by_cases e : x = .bl b
  · subst e
    have rx' := rx
    cases (show v = Value.bool b from rx')
    exact wpAny_isNot_self (nb _ rx _) ⟨.bl false, H, I, rfl, by simpa using q⟩
  · have ne : v ≠ .bool b := fun z => e (by
      subst z
      cases x <;> first | (cases rx; done) | (obtain ⟨t, z⟩ := rx; cases z; done) | skip
      cases (show Value.bool b = Value.bool _ from rx); rfl)
    exact wpAny_isNot_other (nb _ rx _) ne ⟨.bl true, H, I, rfl, by simpa [e] using q⟩
theorem isB_dec {H h : Hp} {x : D} {v : V} {j : Bool} (r : RepF K H h x v) : decide (v = .bl j) = x.isB j := by
  cases x with
  | tup ds => obtain ⟨a, vs, rfl, _⟩ := r; rfl
  | lst ds => obtain ⟨a, vs, rfl, _⟩ := r; rfl
  | dct ks ds => obtain ⟨a, vs, rfl, _⟩ := r; rfl
  | bl i => cases r; simp [D.isB]
  | _ => cases r; rfl
theorem isN_dec {H h : Hp} {x : D} {v : V} (r : RepF K H h x v) : decide (v = .non) = x.isN := by
  cases x with
  | tup ds => obtain ⟨a, vs, rfl, _⟩ := r; rfl
  | lst ds => obtain ⟨a, vs, rfl, _⟩ := r; rfl
  | dct ks ds => obtain ⟨a, vs, rfl, _⟩ := r; rfl
  | _ => cases r; rfl
theorem op2_is : Op2 K (fun x y H Q => (∃ b, y = .bl b ∧ NoBlt x ∧ Q (.bl (decide (x = .bl b))) H) ∨ (y = .non ∧ Q (.bl (decide (x = .non))) H)) dIs := by
  intro S A M H x y z v u R st rx ry e k
  cases y with
  | non =>
    cases ry
    refine .inr ⟨rfl, ?_⟩
    rw [isN_dec rx]
    have e2 : some (D.bl x.isN) = some z := by cases x <;> exact e
    cases e2
    exact k _ H (Same.refl _) rfl
  | bl j =>
    cases ry
    refine .inl ⟨j, rfl, noBlt rx, ?_⟩
    rw [isB_dec rx]
    have e2 : some (D.bl (x.isB j)) = some z := by cases x <;> exact e
    cases e2
    exact k _ H (Same.refl _) rfl
  | _ => cases x <;> cases e
def dIsNot (x y : D) : Option D := (dIs x y).map fun | .bl b => .bl (!b) | d => d
theorem op2_isNot : Op2 K (fun x y H Q => (∃ b, y = .bl b ∧ NoBlt x ∧ Q (.bl (!decide (x = .bl b))) H) ∨ (y = .non ∧ Q (.bl (!decide (x = .non))) H)) dIsNot := by
  intro S A M H x y z v u R st rx ry e k
  cases y with
  | non =>
    cases ry
    refine .inr ⟨rfl, ?_⟩
    rw [isN_dec rx]
    have e2 : some (D.bl (!x.isN)) = some z := by cases x <;> exact e
    cases e2
    exact k _ H (Same.refl _) rfl
  | bl j =>
    cases ry
    refine .inl ⟨j, rfl, noBlt rx, ?_⟩
    rw [isB_dec rx]
    have e2 : some (D.bl (!x.isB j)) = some z := by cases x <;> exact e
    cases e2
    exact k _ H (Same.refl _) rfl
  | _ => cases x <;> cases e
theorem or_is : OpR X (compareOp .Is) (fun x y H Q => (∃ b, y = .bl b ∧ NoBlt x ∧ Q (.bl (decide (x = .bl b))) H) ∨ (y = .non ∧ Q (.bl (decide (x = .non))) H)) := op_isB.or op_isN
theorem or_isNot : OpR X (compareOp .IsNot) (fun x y H Q => (∃ b, y = .bl b ∧ NoBlt x ∧ Q (.bl (!decide (x = .bl b))) H) ∨ (y = .non ∧ Q (.bl (!decide (x = .non))) H)) := op_isNotB.or op_notN
theorem qe_is (ha : QE J X a wa) (hb : QE J X b wb) : QE J X (.Compare a [.Is] [b] pos) (wOp dIs wa wb) := qe_cmp1 or_is op2_is ha hb (nomark _)
theorem qe_isNot (ha : QE J X a wa) (hb : QE J X b wb) : QE J X (.Compare a [.IsNot] [b] pos) (wOp dIsNot wa wb) := qe_cmp1 or_isNot op2_isNot ha hb (nomark _)

/-! ### in: flat things -/
def D.flat : D → Bool
  | .non => true | .bl _ => true | .int _ => true | .str _ => true | _ => false
def D.feq : D → D → Bool
  | .non, .non => true
  | .bl a, .bl b => a == b
  | .bl a, .int b => (if a then 1 else 0) == b
  | .int a, .bl b => a == (if b then 1 else 0)
  | .int a, .int b => a == b
  | .str a, .str b => a == b
  | _, _ => false
theorem Rep.flat {h : Hp} {x : D} {v : V} (r : Rep K h x v) (f : x.flat = true) : flatV v = true := by
  cases x <;> first | (cases r; rfl) | (cases f; done)
theorem Reps.flat {h : Hp} : ∀ {ds : List D} {vs : List V}, Reps K h ds vs → ds.all D.flat = true → vs.all flatV = true
  | [], _, r, _ => by cases r; rfl
  | d :: ds, _, ⟨v, us, e1, e2, e3⟩, f => by
    subst e1
    rw [List.all_cons, Bool.and_eq_true] at f
    rw [List.all_cons, e2.flat f.1, Reps.flat e3 f.2]; rfl
theorem feq_eq {h : Hp} {x y : D} {v u : V} (r : Rep K h x v) (s : Rep K h y u) (f : x.flat = true) (g : y.flat = true) : eqV v u = x.feq y := by
  cases x <;> first | (cases f; done) | (cases r; cases y <;> first | (cases g; done) | (cases s; rfl))
theorem inV_eq {h : Hp} {x : D} {v : V} (r : Rep K h x v) (f : x.flat = true) : ∀ {ds : List D} {vs : List V}, Reps K h ds vs → ds.all D.flat = true → inV v vs = ds.any fun d => d.feq x
  | [], _, s, _ => by cases s; rfl
  | d :: ds, _, ⟨u, us, e1, e2, e3⟩, g => by
    subst e1
    rw [List.all_cons, Bool.and_eq_true] at g
    have ih := inV_eq r f e3 g.2
    unfold inV at ih ⊢
    rw [List.any_cons, List.any_cons, ih, feq_eq e2 r g.1 f]
def D.items : D → Option (List D)
  | .tup ds => some ds
  | .lst ds => some ds
  | _ => none
def dInF (neg : Bool) (x y : D) : Option D := match y.items with
  | some ds => if x.flat && ds.all D.flat then some (.bl (if neg then !(ds.any fun d => d.feq x) else ds.any fun d => d.feq x)) else none
  | none => none
theorem RepF.items {H h : Hp} (e : Same h H) {x : D} {v : V} {ds : List D} (r : RepF K H h x v) (i : x.items = some ds) : ∃ a vs, v = .ref a ∧ (SqL K H a vs ∨ SqT K H a vs) ∧ Reps K h ds vs := by
  cases x with
  | tup es => cases i; obtain ⟨a, vs, rfl, h1, h2⟩ := r; exact ⟨a, vs, rfl, .inr (same_t e h1), h2⟩
  | lst es => cases i; obtain ⟨a, vs, rfl, h1, h2⟩ := r; exact ⟨a, vs, rfl, .inl h1, h2⟩
  | _ => cases i
theorem RepF.flat {H h : Hp} {x : D} {v : V} (r : RepF K H h x v) (f : x.flat = true) : Rep K h x v := by
  cases x <;> first | exact r | (cases f; done)
theorem op2_inF (neg : Bool) : Op2 K (rIn K neg) (dInF neg) := by
  intro S A M H x y z v u R st rx ry e k
  unfold dInF at e
  cases i : y.items with
  | none => rw [i] at e; cases e
  | some ds =>
    rw [i] at e
    simp only at e
    split at e
    · rename_i hz
      rw [Bool.and_eq_true] at hz
      cases e
      obtain ⟨p, vs, rfl, h1, h2⟩ := RepF.items off_sub ry i
      have rx' := rx.flat hz.1
      have q := inV_eq rx' hz.1 h2 hz.2
      exact ⟨p, vs, rfl, h1, rx'.flat hz.1, Reps.flat h2 hz.2, k _ H (Same.refl _) (by rw [q]; rfl)⟩
    · cases e
def strIn (i j : Str) : Bool := !(Builtin.Str.occurrences j i 0 j.length 1).isEmpty
def dIn (x y : D) : Option D := (dInF false x y).or (dS2 (fun i j => .bl (strIn i j)) x y)
def dNotIn (x y : D) : Option D := (dInF true x y).or (dS2 (fun i j => .bl (!strIn i j)) x y)
theorem qe_in (ha : QE J X a wa) (hb : QE J X b wb) (hm : behindInMarks .In b = false := by rfl) : QE J X (.Compare a [.In] [b] pos) (wOp dIn wa wb) :=
  qe_cmp1 (op_in_seq.or op_in_str) ((op2_inF false).or (op2_S fun _ _ _ => rfl)) ha hb hm
theorem qe_notIn (ha : QE J X a wa) (hb : QE J X b wb) (hm : behindInMarks .NotIn b = false := by rfl) : QE J X (.Compare a [.NotIn] [b] pos) (wOp dNotIn wa wb) :=
  qe_cmp1 (op_notIn_seq.or op_notIn_str) ((op2_inF true).or (op2_S fun _ _ _ => rfl)) ha hb hm

/-! ### tests -/
def wTb (we : WE) : WT := fun env M Q => we env M fun r M1 => ∃ b, r = .d (.bl b) ∧ Q b M1
theorem dn_tb {te : TE} (h : Dn J K te we) : DnT J K (tB te) (wTb we) := by
  intro env M Q hw S A σ H R st en k
  refine h env M _ hw S A σ H _ st en fun v H1 x M1 A1 p1 s1 q1 ⟨b, e, hq⟩ => ?_
  subst e
  cases q1
  exact ⟨b, rfl, k b H1 M1 A1 p1 s1 hq⟩
theorem dn_tt {te : TE} (h : Dn J K te we) : DnT J K (tTest te) (wTb we) := dn_tb h
/-- a name, a call, a subscript whose value is a bool -/
theorem qt_val (h : QE J X e we) (he : ∀ whole, isTrue e X.env whole = (do let v ← whole; standAt e.pos; holding [v] (truthy v)) := by intro _; rfl) : QT J X e (wTb we) := by
  obtain ⟨te, pe, de⟩ := h
  exact ⟨_, pt_val pe he, dn_tb de⟩
theorem qt_cmp1 {op : CmpOp} {r : R2} {f : D → D → Option D} (ho : OpR X (compareOp op) r) (h2 : Op2 X.K r f) (ha : QE J X a wa) (hb : QE J X b wb) (hm : behindInMarks op b = false) : QT J X (.Compare a [op] [b] pos) (wTb (wOp f wa wb)) := by
  obtain ⟨ta, pa, da⟩ := ha
  obtain ⟨tb, pb, db⟩ := hb
  exact ⟨_, pt_cmpR ho pa pb hm, dn_tt (dn_op h2 da db)⟩
theorem qt_lt (ha : QE J X a wa) (hb : QE J X b wb) : QT J X (.Compare a [.Lt] [b] pos) (wTb (wOp dLt wa wb)) := qt_cmp1 or_lt op2_lt ha hb (nomark _)
theorem qt_le (ha : QE J X a wa) (hb : QE J X b wb) : QT J X (.Compare a [.LtE] [b] pos) (wTb (wOp dLe wa wb)) := qt_cmp1 or_le op2_le ha hb (nomark _)
theorem qt_gt (ha : QE J X a wa) (hb : QE J X b wb) : QT J X (.Compare a [.Gt] [b] pos) (wTb (wOp dGt wa wb)) := qt_cmp1 or_gt op2_gt ha hb (nomark _)
theorem qt_ge (ha : QE J X a wa) (hb : QE J X b wb) : QT J X (.Compare a [.GtE] [b] pos) (wTb (wOp dGe wa wb)) := qt_cmp1 or_ge op2_ge ha hb (nomark _)
theorem qt_eq (hu : X.A.units + 64 < cLine) (ha : QE J X a wa) (hb : QE J X b wb) : QT J X (.Compare a [.Eq] [b] pos) (wTb (wOp dEq wa wb)) := qt_cmp1 (op_eq.or (op_eqD hu)) (op2_eqF.or op2_eqD) ha hb (nomark _)
theorem qt_ne (hu : X.A.units + 64 < cLine) (ha : QE J X a wa) (hb : QE J X b wb) : QT J X (.Compare a [.NotEq] [b] pos) (wTb (wOp dNe wa wb)) :=
  qt_cmp1 (op_ne.or (op_neD hu)) (Op2.sub (op2_neF.or op2_neD) fun x y z e => by
    unfold dNe dEq at e
    cases h : dEqF x y with
    | none => simp only [h] at e ⊢; exact e
    | some w => simp only [h] at e ⊢; exact e) ha hb (nomark _)
theorem qt_is (ha : QE J X a wa) (hb : QE J X b wb) : QT J X (.Compare a [.Is] [b] pos) (wTb (wOp dIs wa wb)) := qt_cmp1 or_is op2_is ha hb (nomark _)
theorem qt_isNot (ha : QE J X a wa) (hb : QE J X b wb) : QT J X (.Compare a [.IsNot] [b] pos) (wTb (wOp dIsNot wa wb)) := qt_cmp1 or_isNot op2_isNot ha hb (nomark _)
theorem qt_in (ha : QE J X a wa) (hb : QE J X b wb) (hm : behindInMarks .In b = false := by rfl) : QT J X (.Compare a [.In] [b] pos) (wTb (wOp dIn wa wb)) :=
  qt_cmp1 (op_in_seq.or op_in_str) ((op2_inF false).or (op2_S fun _ _ _ => rfl)) ha hb hm
theorem qt_notIn (ha : QE J X a wa) (hb : QE J X b wb) (hm : behindInMarks .NotIn b = false := by rfl) : QT J X (.Compare a [.NotIn] [b] pos) (wTb (wOp dNotIn wa wb)) :=
  qt_cmp1 (op_notIn_seq.or op_notIn_str) ((op2_inF true).or (op2_S fun _ _ _ => rfl)) ha hb hm
/-- a op b op c -/
def wChain (f g : D → D → Option D) (wa wb wc : WE) : WE := fun env M Q => wa env M fun x M1 => wb env M1 fun y M2 => ∃ a, x.dat M2 = some a ∧ ∃ b, y.dat M2 = some b ∧ ∃ k, f a b = some (.bl k) ∧
  (if k = true then wc env M2 fun w M3 => ∃ b', y.dat M3 = some b' ∧ ∃ c', w.dat M3 = some c' ∧ ∃ z, g b' c' = some z ∧ Q (.d z) M3 else Q (.d (.bl false)) M2)
theorem dn_chain {r r' : R2} {f g : D → D → Option D} {ta tb tc : TE} (o : Op2 K r f) (o' : Op2 K r' g) (ha : Dn J K ta wa) (hb : Dn J K tb wb) (hc : Dn J K tc wc) : Dn J K (tChain r r' ta tb tc) (wChain f g wa wb wc) := by
  intro env M Q hw S A σ H R st en k
  refine ha env M _ hw S A σ H _ st en fun v H1 x M1 A1 p1 s1 q1 hw1 => ?_
  refine hb env M1 _ hw1 S A1 σ H1 _ s1 (en.mono p1) fun u H2 y M2 A2 p2 s2 q2 ⟨a, ea, b, eb, t, ez, hq⟩ => ?_
  refine o S A2 M2 H2 a b (.bl t) v u _ s2 (s2.dat (q1.mono p2) ea) (s2.dat q2 eb) ez fun w H' sm rw => ?_
  cases rw
  refine ⟨t, rfl, ?_⟩
  have p3 := s2.post sm
  have s3 := s2.grow sm
  cases t with
  | false => exact k _ H' (.d (.bl false)) M2 A2 ((p1.trans p2).trans p3) s3 (show V.bl false = V.bl false from rfl) hq
  | true =>
    refine hc env M2 _ hq S A2 σ H' _ s3 (en.mono ((p1.trans p2).trans p3)) fun w H4 y' M4 A4 p4 s4 q4 ⟨b', eb', c', ec', z, ez', hq'⟩ => ?_
    refine o' S A4 M4 H4 b' c' z u w R s4 (s4.dat (q2.mono (p3.trans p4)) eb') (s4.dat q4 ec') ez' fun w5 H5 sm5 rw5 => ?_
    exact k w5 H5 (.d z) M4 A4 ((((p1.trans p2).trans p3).trans p4).trans (s4.post sm5)) (s4.grow sm5) rw5 hq'
theorem qe_chain {op op' : CmpOp} {r r' : R2} {f g : D → D → Option D} (ho : OpR X (compareOp op) r) (h2 : Op2 X.K r f) (ho' : OpR X (compareOp op') r') (h2' : Op2 X.K r' g) (ha : QE J X a wa) (hb : QE J X b wb) (hc : QE J X c wc)
    (hm : lastMarks [op, op'] [b, c] = false := by with_unfolding_all rfl) : QE J X (.Compare a [op, op'] [b, c] pos) (wChain f g wa wb wc) := by
  obtain ⟨ta, pa, da⟩ := ha
  obtain ⟨tb, pb, db⟩ := hb
  obtain ⟨tc, pc, dc⟩ := hc
  exact ⟨_, pe_chain ho ho' pa pb pc hm, dn_chain h2 h2' da db dc⟩
theorem qt_chain {op op' : CmpOp} {r r' : R2} {f g : D → D → Option D} (ho : OpR X (compareOp op) r) (h2 : Op2 X.K r f) (ho' : OpR X (compareOp op') r') (h2' : Op2 X.K r' g) (ha : QE J X a wa) (hb : QE J X b wb) (hc : QE J X c wc)
    (hm : lastMarks [op, op'] [b, c] = false := by with_unfolding_all rfl) : QT J X (.Compare a [op, op'] [b, c] pos) (wTb (wChain f g wa wb wc)) := by
  obtain ⟨ta, pa, da⟩ := ha
  obtain ⟨tb, pb, db⟩ := hb
  obtain ⟨tc, pc, dc⟩ := hc
  exact ⟨_, pt_chain ho ho' pa pb pc hm, dn_tt (dn_chain h2 h2' da db dc)⟩
/-- and, or, not of tests -/
def wAnd (t u : WT) : WT := fun env M Q => t env M fun c M1 => if c = true then u env M1 Q else Q false M1
def wOr (t u : WT) : WT := fun env M Q => t env M fun c M1 => if c = true then Q true M1 else u env M1 Q
def wNotT (t : WT) : WT := fun env M Q => t env M fun c M1 => Q (!c) M1
theorem qw_one {op : PySem.BoolOp} (h : QT J X a wt) (hop : op = .And ∨ op = .Or) : QW J X (.BoolOp op [a] pos) wt := by
  obtain ⟨tt, pt, dt⟩ := h
  rcases hop with rfl | rfl
  · exact ⟨tt, pw_and1 pt, dt⟩
  · exact ⟨tt, pw_or1 pt, dt⟩
theorem qw_and1 (h : QT J X a wt) : QW J X (.BoolOp .And [a] pos) wt := qw_one h (.inl rfl)
theorem qw_or1 (h : QT J X a wt) : QW J X (.BoolOp .Or [a] pos) wt := qw_one h (.inr rfl)
theorem qw_and (h : QT J X a wt) (g : QW J X (.BoolOp .And (b :: rest) pos) wu) : QW J X (.BoolOp .And (a :: b :: rest) pos) (wAnd wt wu) := by
  obtain ⟨tt, pt, dt⟩ := h
  obtain ⟨tu, pu, du⟩ := g
  refine ⟨_, pw_and pt pu, fun env M Q hw S A σ H R st en k => ?_⟩
  refine dt env M _ hw S A σ H _ st en fun c H1 M1 A1 p1 s1 hq => ?_
  cases c with
  | true => exact du env M1 Q hq S A1 σ H1 R s1 (en.mono p1) fun d H2 M2 A2 p2 s2 hq2 => k d H2 M2 A2 (p1.trans p2) s2 hq2
  | false => exact k false H1 M1 A1 p1 s1 hq
theorem qw_or (h : QT J X a wt) (g : QW J X (.BoolOp .Or (b :: rest) pos) wu) : QW J X (.BoolOp .Or (a :: b :: rest) pos) (wOr wt wu) := by
  obtain ⟨tt, pt, dt⟩ := h
  obtain ⟨tu, pu, du⟩ := g
  refine ⟨_, pw_or pt pu, fun env M Q hw S A σ H R st en k => ?_⟩
  refine dt env M _ hw S A σ H _ st en fun c H1 M1 A1 p1 s1 hq => ?_
  cases c with
  | true => exact k true H1 M1 A1 p1 s1 hq
  | false => exact du env M1 Q hq S A1 σ H1 R s1 (en.mono p1) fun d H2 M2 A2 p2 s2 hq2 => k d H2 M2 A2 (p1.trans p2) s2 hq2
theorem QW.t (h : QW J X e wt) : QT J X e wt := by
  obtain ⟨tt, pt, dt⟩ := h
  exact ⟨tt, pt.pt, dt⟩
theorem qt_not (h : QT J X a wt) : QT J X (.UnaryOp .Not a pos) (wNotT wt) := by
  obtain ⟨tt, pt, dt⟩ := h
  refine ⟨_, pt_not pt, fun env M Q hw S A σ H R st en k => ?_⟩
  exact dt env M _ hw S A σ H _ st en fun c H1 M1 A1 p1 s1 hq => k (!c) H1 M1 A1 p1 s1 hq
/-- .. as values -/
def wAndV (wa wb : WE) : WE := fun env M Q => wa env M fun x M1 => ∃ c, x = .d (.bl c) ∧ if c = true then wb env M1 Q else Q (.d (.bl false)) M1
def wOrV (wa wb : WE) : WE := fun env M Q => wa env M fun x M1 => ∃ c, x = .d (.bl c) ∧ if c = true then Q (.d (.bl true)) M1 else wb env M1 Q
def wNotV (wa : WE) : WE := fun env M Q => wa env M fun x M1 => ∃ c, x = .d (.bl c) ∧ Q (.d (.bl (!c))) M1
theorem qe_one {op : PySem.BoolOp} (h : QE J X a wa) : QE J X (.BoolOp op [a] pos) wa := by
  obtain ⟨te, pe, de⟩ := h
  exact ⟨te, pe_one pe, de⟩
theorem qe_and (h : QE J X a wa) (g : QE J X (.BoolOp .And (b :: rest) pos) wb) : QE J X (.BoolOp .And (a :: b :: rest) pos) (wAndV wa wb) := by
  obtain ⟨ta, pa, da⟩ := h
  obtain ⟨tb, pb, db⟩ := g
  refine ⟨_, pe_and pa pb, fun env M Q hw S A σ H R st en k => ?_⟩
  refine da env M _ hw S A σ H _ st en fun v H1 x M1 A1 p1 s1 q1 ⟨c, e, hq⟩ => ?_
  subst e
  cases q1
  refine ⟨c, rfl, ?_⟩
  cases c with
  | true => exact db env M1 Q hq S A1 σ H1 R s1 (en.mono p1) fun d H2 r M2 A2 p2 s2 q2 hq2 => k d H2 r M2 A2 (p1.trans p2) s2 q2 hq2
  | false => exact k (.bl false) H1 (.d (.bl false)) M1 A1 p1 s1 (show V.bl false = V.bl false from rfl) hq
theorem qe_or (h : QE J X a wa) (g : QE J X (.BoolOp .Or (b :: rest) pos) wb) : QE J X (.BoolOp .Or (a :: b :: rest) pos) (wOrV wa wb) := by
  obtain ⟨ta, pa, da⟩ := h
  obtain ⟨tb, pb, db⟩ := g
  refine ⟨_, pe_or pa pb, fun env M Q hw S A σ H R st en k => ?_⟩
  refine da env M _ hw S A σ H _ st en fun v H1 x M1 A1 p1 s1 q1 ⟨c, e, hq⟩ => ?_
  subst e
  cases q1
  refine ⟨c, rfl, ?_⟩
  cases c with
  | false => exact db env M1 Q hq S A1 σ H1 R s1 (en.mono p1) fun d H2 r M2 A2 p2 s2 q2 hq2 => k d H2 r M2 A2 (p1.trans p2) s2 q2 hq2
  | true => exact k (.bl true) H1 (.d (.bl true)) M1 A1 p1 s1 (show V.bl true = V.bl true from rfl) hq
theorem qe_not (h : QE J X a wa) : QE J X (.UnaryOp .Not a pos) (wNotV wa) := by
  obtain ⟨ta, pa, da⟩ := h
  refine ⟨_, pe_not pa, fun env M Q hw S A σ H R st en k => ?_⟩
  refine da env M _ hw S A σ H _ st en fun v H1 x M1 A1 p1 s1 q1 ⟨c, e, hq⟩ => ?_
  subst e
  cases q1
  exact ⟨c, rfl, k (.bl (!c)) H1 (.d (.bl (!c))) M1 A1 p1 s1 (show V.bl (!c) = V.bl (!c) from rfl) hq⟩
def wIf (t : WT) (wa wb : WE) : WE := fun env M Q => t env M fun c M1 => if c = true then wa env M1 Q else wb env M1 Q
theorem qe_if (h : QT J X c wt) (ha : QE J X a wa) (hb : QE J X b wb) : QE J X (.IfExp c a b pos) (wIf wt wa wb) := by
  obtain ⟨tt, pt, dt⟩ := h
  obtain ⟨ta, pa, da⟩ := ha
  obtain ⟨tb, pb, db⟩ := hb
  refine ⟨_, pe_ifExp pt pa pb, fun env M Q hw S A σ H R st en k => ?_⟩
  refine dt env M _ hw S A σ H _ st en fun c H1 M1 A1 p1 s1 hq => ?_
  cases c with
  | true => exact da env M1 Q hq S A1 σ H1 R s1 (en.mono p1) fun d H2 r M2 A2 p2 s2 q2 hq2 => k d H2 r M2 A2 (p1.trans p2) s2 q2 hq2
  | false => exact db env M1 Q hq S A1 σ H1 R s1 (en.mono p1) fun d H2 r M2 A2 p2 s2 q2 hq2 => k d H2 r M2 A2 (p1.trans p2) s2 q2 hq2

/-! ### arguments, displays -/
def wNil : WA := fun _ M Q => Q [] M
def wCons (wa : WE) (ws : WA) : WA := fun env M Q => wa env M fun x M1 => ws env M1 fun xs M2 => Q (x :: xs) M2
theorem qa_nil : QA J X [] wNil := ⟨_, pa_nil, fun env M Q hw S A σ H R st en k => k [] H [] M A Post.refl st rfl hw⟩
theorem qa_cons (h : QE J X e we) (g : QA J X es ws) (hs : starEach (e :: es) X.env = (false, eval e X.env) :: starEach es X.env := by rfl) : QA J X (e :: es) (wCons we ws) := by
  obtain ⟨te, pe, de⟩ := h
  obtain ⟨ta, pa, da⟩ := g
  refine ⟨_, pa_cons pe pa hs, fun env M Q hw S A σ H R st en k => ?_⟩
  refine de env M _ hw S A σ H _ st en fun v H1 x M1 A1 p1 s1 q1 hw1 => ?_
  exact da env M1 _ hw1 S A1 σ H1 _ s1 (en.mono p1) fun vs H2 rs M2 A2 p2 s2 q2 hq => k (v :: vs) H2 (x :: rs) M2 A2 (p1.trans p2) s2 ⟨v, vs, rfl, q1.mono p2, q2⟩ hq
def ds? : List Rv → Option (List D)
  | [] => some []
  | .d x :: rs => (ds? rs).map (x :: ·)
  | .o _ :: _ => none
theorem RepVs.data {S A : List Addr} {H : Hp} : ∀ {rs : List Rv} {vs : List V} {ds : List D}, RepVs K S A H rs vs → ds? rs = some ds → Reps K (view S A H) ds vs
  | [], _, _, r, e => by cases r; cases e; rfl
  | .d x :: rs, _, ds, ⟨v, us, e1, e2, e3⟩, e => by
    subst e1
    unfold ds? at e
    cases z : ds? rs with
    | none => rw [z] at e; cases e
    | some es => rw [z] at e; cases e; exact ⟨v, us, rfl, e2, RepVs.data e3 z⟩
  | .o k :: rs, _, _, _, e => by cases e
def wTup (ws : WA) : WE := fun env M Q => ws env M fun rs M1 => ∃ ds, ds? rs = some ds ∧ ds.length ≤ sizeLine ∧ Q (.d (.tup ds)) M1
def wLst (ws : WA) : WE := fun env M Q => ws env M fun rs M1 => ∃ ds, ds? rs = some ds ∧ ds.length ≤ sizeLine ∧ Q (.d (.lst ds)) M1
/-- a new list that may change -/
def wLstO (ws : WA) : WE := fun env M Q => ws env M fun rs M1 => ∃ ds, ds? rs = some ds ∧ ds.length ≤ sizeLine ∧ Q (.o M1.length) (M1 ++ [.lst ds])
theorem qe_tup {x1 : Nat} (h : QA J X es ws) : QE J X (.Tuple es x1 pos) (wTup ws) := by
  obtain ⟨ta, pa, da⟩ := h
  refine ⟨_, pe_tup pa, fun env M Q hw S A σ H R st en k => ?_⟩
  refine da env M _ hw S A σ H _ st en fun vs H1 rs M1 A1 p1 s1 q1 ⟨ds, e, hz, hq⟩ => ?_
  have r := q1.data e
  refine ⟨by rw [r.len]; exact hz, fun p hp => ?_⟩
  have sm := same_upd (o := .tup vs) hp
  exact k _ _ (.d (.tup ds)) M1 A1 (p1.trans (s1.post sm)) (s1.grow sm) ⟨p, vs, rfl, .inl (.inl (view_at s1 hp)), Reps.mono (off_same sm) _ _ r⟩ hq
theorem qe_lst (h : QA J X es ws) : QE J X (.List es pos) (wLst ws) := by
  obtain ⟨ta, pa, da⟩ := h
  refine ⟨_, pe_lst pa, fun env M Q hw S A σ H R st en k => ?_⟩
  refine da env M _ hw S A σ H _ st en fun vs H1 rs M1 A1 p1 s1 q1 ⟨ds, e, hz, hq⟩ => ?_
  have r := q1.data e
  refine ⟨by rw [r.len]; exact hz, fun p hp => ?_⟩
  have sm := same_upd (o := .lst vs) hp
  exact k _ _ (.d (.lst ds)) M1 A1 (p1.trans (s1.post sm)) (s1.grow sm) ⟨p, vs, rfl, .inl (.inl (view_at s1 hp)), Reps.mono (off_same sm) _ _ r⟩ hq
theorem qe_lstO (h : QA J X es ws) : QE J X (.List es pos) (wLstO ws) := by
  obtain ⟨ta, pa, da⟩ := h
  refine ⟨_, pe_lst pa, fun env M Q hw S A σ H R st en k => ?_⟩
  refine da env M _ hw S A σ H _ st en fun vs H1 rs M1 A1 p1 s1 q1 ⟨ds, e, hz, hq⟩ => ?_
  have r := q1.data e
  refine ⟨by rw [r.len]; exact hz, fun p hp => ?_⟩
  obtain ⟨s2, p2⟩ := s1.new (mo := .lst ds) (o := .lst vs) hp ⟨vs, upd_same, Reps.mono (view_new hp) _ _ r⟩
  exact k _ _ (.o M1.length) _ _ (p1.trans p2) s2 ⟨p, by rw [← s1.len, List.getElem?_append_right (Nat.le_refl _)]; simp, rfl⟩ hq

/-! ### subscripts, slices -/
def dIx : D → D → Option D
  | .lst ds, .int i => atI ds i
  | .tup ds, .int i => atI ds i
  | .str z, .int i => if z.length ≤ sizeLine then (atI z.cps.toList i).map fun c => .str ⟨#[c]⟩ else none
  | _, _ => none
theorem Reps.atI {h : Hp} {ds : List D} {vs : List V} {i : Int} {d : D} (r : Reps K h ds vs) (e : L2.atI ds i = some d) : ∃ v, L2.atI vs i = some v ∧ Rep K h d v := by
  unfold L2.atI at e ⊢
  rw [r.len]
  cases z : ixN ds.length i with
  | none => rw [z] at e; cases e
  | some j => rw [z] at e; exact r.get e
theorem op2_ix : Op2 K (rIx K) dIx := by
  intro S A M H x y z v u R st rx ry e k
  cases x with
  | lst ds =>
    cases y <;> try (cases e; done)
    cases ry
    obtain ⟨p, vs, rfl, h1, h2⟩ := rx
    obtain ⟨w, e1, e2⟩ := Reps.atI h2 e
    exact .inl ⟨p, vs, _, w, rfl, rfl, h1, e1, k w H (Same.refl _) e2⟩
  | tup ds =>
    cases y <;> try (cases e; done)
    cases ry
    obtain ⟨p, vs, rfl, h1, h2⟩ := rx
    obtain ⟨w, e1, e2⟩ := Reps.atI h2 e
    exact .inr (.inl ⟨p, vs, _, w, rfl, rfl, same_t off_sub h1, e1, k w H (Same.refl _) e2⟩)
  | str t =>
    cases y <;> try (cases e; done)
    rename_i i
    cases rx; cases ry
    unfold dIx at e
    simp only at e
    split at e
    · rename_i hz
      cases q : L2.atI t.cps.toList i with
      | none => rw [q] at e; cases e
      | some c =>
        rw [q] at e
        cases e
        exact .inr (.inr ⟨t, i, c, rfl, rfl, hz, q, k _ H (Same.refl _) rfl⟩)
    · cases e
  | _ => cases e
theorem qe_ix (ha : QE J X a wa) (hb : QE J X b wb) (hs : PlainIx b := by exact fun _ _ => rfl) : QE J X (.Subscript a b pos) (wOp dIx wa wb) := by
  obtain ⟨ta, pa, da⟩ := ha
  obtain ⟨tb, pb, db⟩ := hb
  exact ⟨_, pe_ix ix_seq pa pb hs, dn_op op2_ix da db⟩
abbrev WO := Env' → Mem → (Option Int → Mem → Prop) → Prop
def WpO (J : Bs) (K : PySem.W.Frag) (te : TO) (env : Env') (M : Mem) (Q : Option Int → Mem → Prop) : Prop :=
  ∀ (S A : List Addr) (σ : L2.St) (H : Hp) (R : Option Int → Hp → Prop), Sto K S A H M → EnvOk J K S A H env σ →
    (∀ (b : Option Int) (H' : Hp) (M' : Mem) (A' : List Addr), Post S A H A' H' → Sto K S A' H' M' → Q b M' → R b H') → te σ H R
def QO (J : Bs) (X : Cx) (e : Option Expr) (wo : WO) : Prop := ∃ to, PO X e to ∧ ∀ env M Q, wo env M Q → WpO J X.K to env M Q
def wNoPart : WO := fun _ M Q => Q none M
def wPart (we : WE) : WO := fun env M Q => we env M fun r M1 => ∃ i, r = .d (.int i) ∧ Q (some i) M1
theorem qo_none : QO J X none wNoPart := ⟨_, po_none, fun env M Q hw S A σ H R st en k => k none H M A Post.refl st hw⟩
theorem qo_some (h : QE J X e we) : QO J X (some e) (wPart we) := by
  obtain ⟨te, pe, de⟩ := h
  refine ⟨_, po_some pe, fun env M Q hw S A σ H R st en k => ?_⟩
  refine de env M _ hw S A σ H _ st en fun v H1 x M1 A1 p1 s1 q1 ⟨i, e, hq⟩ => ?_
  subst e
  cases q1
  exact ⟨i, rfl, k (some i) H1 M1 A1 p1 s1 hq⟩
def cutD {α : Type} (xs : List α) (lo hi : Option Int) : List α := (xs.drop (HT.sIx xs.length 0 lo)).take (HT.sIx xs.length xs.length hi - HT.sIx xs.length 0 lo)
def dSl (lo hi : Option Int) : D → Option D
  | .lst ds => some (.lst (cutD ds lo hi))
  | .tup ds => some (.tup (cutD ds lo hi))
  | .str z => if z.length ≤ sizeLine then some (.str (cutS z lo hi)) else none
  | _ => none
theorem Reps.cut {h : Hp} {ds : List D} {vs : List V} (r : Reps K h ds vs) (lo hi : Option Int) : Reps K h (cutD ds lo hi) (cutV vs lo hi) := by
  unfold cutD cutV
  rw [r.len]
  exact Reps.take _ (Reps.drop _ r)
def wSl (we : WE) (wl wh : WO) : WE := fun env M Q => we env M fun x M1 => wl env M1 fun lo M2 => wh env M2 fun hi M3 => ∃ a, x.dat M3 = some a ∧ ∃ z, dSl lo hi a = some z ∧ Q (.d z) M3
theorem qe_sl {p2 : Pos} {lo hi : Option Expr} {wl wh : WO} (h : QE J X e we) (hl : QO J X lo wl) (hh : QO J X hi wh) : QE J X (.Subscript e (.Slice lo hi none p2) pos) (wSl we wl wh) := by
  obtain ⟨te, pe, de⟩ := h
  obtain ⟨tl, pl, dl⟩ := hl
  obtain ⟨th, ph, dh⟩ := hh
  refine ⟨_, pe_slice (sl_list.or (sl_tupA.or sl_str)) pe pl ph, fun env M Q hw S A σ H R st en k => ?_⟩
  refine de env M _ hw S A σ H _ st en fun v H1 x M1 A1 p1 s1 q1 hw1 => ?_
  refine dl env M1 _ hw1 S A1 σ H1 _ s1 (en.mono p1) fun lo H2 M2 A2 p2 s2 hw2 => ?_
  refine dh env M2 _ hw2 S A2 σ H2 _ s2 (en.mono (p1.trans p2)) fun hi H3 M3 A3 p3 s3 ⟨d, ed, z, ez, hq⟩ => ?_
  have rx := s3.dat (q1.mono (p2.trans p3)) ed
  have pp := (p1.trans p2).trans p3
  cases d with
  | lst ds =>
    cases ez
    obtain ⟨p, vs, rfl, h1, h2⟩ := rx
    refine .inl ⟨p, vs, rfl, h1, fun q hq' => ?_⟩
    have sm := same_upd (o := .lst (cutV vs lo hi)) hq'
    exact k _ _ (.d (.lst (cutD ds lo hi))) M3 A3 (pp.trans (s3.post sm)) (s3.grow sm) ⟨q, _, rfl, .inl (.inl (view_at s3 hq')), Reps.cut (Reps.mono (off_same sm) _ _ h2) lo hi⟩ hq
  | tup ds =>
    cases ez
    obtain ⟨p, vs, rfl, h1, h2⟩ := rx
    refine .inr (.inl ⟨p, vs, rfl, same_t off_sub h1, fun w => ?_, fun w q hq' => ?_⟩)
    · have e1 : cutD ds lo hi = ds := by
        unfold cutD
        rw [← h2.len, w.1, w.2, List.drop_zero, Nat.sub_zero, h2.len, List.take_length]
      rw [e1] at hq
      exact k _ H3 (.d (.tup ds)) M3 A3 pp s3 ⟨p, vs, rfl, h1, h2⟩ hq
    · have sm := same_upd (o := .tup (cutV vs lo hi)) hq'
      exact k _ _ (.d (.tup (cutD ds lo hi))) M3 A3 (pp.trans (s3.post sm)) (s3.grow sm) ⟨q, _, rfl, .inl (.inl (view_at s3 hq')), Reps.cut (Reps.mono (off_same sm) _ _ h2) lo hi⟩ hq
  | str t =>
    unfold dSl at ez
    simp only at ez
    split at ez
    · rename_i hz
      cases ez
      cases rx
      exact .inr (.inr ⟨t, rfl, hz, k _ H3 (.d (.str (cutS t lo hi))) M3 A3 pp s3 (show V.str _ = V.str _ from rfl) hq⟩)
    · cases ez
  | _ => cases ez
end
end Dw
set_option Elab.async false
set_option linter.all false
set_option maxRecDepth 100000
set_option maxHeartbeats 4000000
/-! DwS: sorted(list or tuple of data). -/
namespace Dw
open PySem PySem.Spec PyProof.Rows L2
section
variable {prog : Program} {w : World} {A : Around} {E : Value → Shared → Prop} {s : Shared}
theorem collect_seq {l : Addr} {o : Obj} {T : String} {n : Nat} {vs : List Value} {Q : List Value → Shared → Prop} (ho : s.heap.get? l = some o) (hc : o.cls = .type T) (hT : T = "list" ∨ T = "tuple") (hd : o.data = .seq vs.toArray n)
    (h : Q vs { s with heap := (s.heap.push (seqObj "list" #[] 0)).update s.heap.objs.size (Obj.mapSeq (· ++ vs.toArray)) }) (hsz : vs.length ≤ sizeLine) :
    wpAny (model prog w) A (collect (.ref l)) Q E s := by
  unfold collect
  refine wpAny_bind (wpAny_runValue (codeAny_builtin entry_proto_collect' ?_))
  show wpAny _ _ (do again (.builtin "list.__iadd__" ⟨[← newList [], .ref l], []⟩)) _ _ s
  refine wpAny_bind (wpAny_newList (wpAny_pure ⟨Code.quiet_builtin _ (by decide +kernel), codeAny_builtin entry_list_iadd' ?_⟩))
  show wpAny _ _ (Builtin.List.listExtendWith (.ref s.heap.objs.size) (.ref l) (.ref s.heap.objs.size)) _ _ { s with heap := s.heap.push (seqObj "list" #[] 0) }
  unfold Builtin.List.listExtendWith
  have ho' : (s.heap.push (seqObj "list" #[] 0)).get? l = some o := Heap.get?_push_of_some _ ho
  refine wpAny_bind (wpAny_typeOf (T := T) ⟨o, ho', hc⟩ ?_)
  have ht : (Builtin.List.listSameRef (.ref s.heap.objs.size) (.ref l) || Value.type T == .type "list" || Value.type T == .type "tuple") = true := by
    rcases hT with rfl | rfl
    · rw [show (Value.type "list" == Value.type "list") = true from rfl]; simp
    · rw [show (Value.type "tuple" == Value.type "tuple") = true from rfl]; simp
  rw [if_pos ht]
  refine wpAny_bind (listItems_at ho' hd ?_)
  refine wpAny_bind (listItems_at (xs := #[]) (n := 0) (Heap.get?_push_size _ rfl) rfl ?_)
  rw [if_neg (by simp)]
  refine wpAny_bind (listUpdate_at (xs := #[]) (n := 0) (Heap.get?_push_size _ rfl) rfl ?_ (Nat.zero_le _) (by show (#[] ++ vs.toArray).size ≤ sizeLine + 1; simp only [Array.size_append,List.size_toArray,List.length_nil]; omega))
  refine wpAny_pure ?_
  show wpAny (model prog w) A (do
      let o ← load s.heap.objs.size
      match o.data with
      | .seq xs _ => pure xs.toList
      | _ => unsupported "internal:collect") Q E { s with heap := (s.heap.push (seqObj "list" #[] 0)).update s.heap.objs.size (Obj.mapSeq (· ++ vs.toArray)) }
  refine wpAny_bind (wpAny_load (get?_update_seq (Heap.get?_push_size _ rfl) _) ?_)
  show wpAny _ _ (pure ((#[] : Array Value) ++ vs.toArray).toList) Q E _
  rw [show ((#[] : Array Value) ++ vs.toArray).toList = vs by simp]
  exact wpAny_pure h
open PySem.W PySem.Calls
theorem sorted_seq {l : Addr} {o : Obj} {T : String} {n : Nat} {vs : List Value} {κ : PyProof.Rows.KeyKind} {Q : Value → Shared → Prop} (ho : s.heap.get? l = some o) (hc : o.cls = .type T) (hT : T = "list" ∨ T = "tuple") (hd : o.data = .seq vs.toArray n)
    (S : SortsAt prog w A.in1.in1 { s with heap := sortingHeap (copyHeap s.heap vs) (s.heap.objs.size + 1) vs } κ vs) (hL : vs.length ≤ sizeLine)
    (h : Q (.ref (s.heap.objs.size + 1)) { s with heap := sortedAll s.heap vs (sortVals κ false vs vs).toArray }) : wpAny (model prog w) A (call (.builtin "sorted") [.ref l]) Q E s := by
  refine call_function_entry_kw kind_sorted plain_sorted entry_sorted (args_sorted1 _) ?_
  unfold Builtin.«sorted»
  refine wpAny_bind (m := checkCount "sorted" 1 1 _) (wpAny_pure ?_)
  refine wpAny_bind (collect_seq ho hc hT hd ?_ hL)
  refine wpAny_bind (wpAny_newList ?_ hL)
  have hsz : ((s.heap.push (seqObj "list" #[] 0)).update s.heap.objs.size (Obj.mapSeq (· ++ vs.toArray))).objs.size = s.heap.objs.size + 1 := by
    rw [Heap.size_update, size_push']
  show wpAny _ _ _ _ _ { s with heap := copyHeap s.heap vs }
  rw [hsz]
  refine wpAny_bind (wpAny_holding (wpAny_call_entry_kw slot_list_sort ⟨_, copyHeap_at s.heap vs, rfl⟩ entry_list_sort ?body (args_list_sort _)))
  case body =>
    show wpAny (model prog w) A.in1.in1 (Builtin.«list.sort» ⟨[.ref (s.heap.objs.size + 1)], []⟩) _ _ _
    refine wpAny_mono (Q := fun f s' => f = .done (.ret .none) ∧ Q (.ref (s.heap.objs.size + 1)) s') (list_sort_vals (s := { s with heap := copyHeap s.heap vs }) (copyHeap_at s.heap vs) S hL ⟨rfl, h⟩) (fun f s' hf => ?_) fun _ _ e => e
    obtain ⟨rfl, hq⟩ := hf
    exact ⟨_, rfl, wpAny_pure ⟨_, rfl, hq⟩⟩
end
/-! ### rows of tuples of which the first one is empty -/
section
open PySem.W PySem.Calls
variable {prog : Program} {w : World} {A : Around} {E : Value → Shared → Prop} {s : Shared}
theorem mapM_each {M : Model} {α β : Type} {f : α → Sem β} {g : α → β} : ∀ (l : List α) {Q : List β → Shared → Prop}, (∀ v ∈ l, ∀ (Q' : β → Shared → Prop), Q' (g v) s → wpAny M A (f v) Q' E s) → Q (l.map g) s → wpAny M A (l.mapM f) Q E s
  | [], _, _, h => by rw [List.mapM_nil]; exact wpAny_pure h
  | x :: l, Q, hf, h => by
    rw [List.mapM_cons]
    refine wpAny_bind (hf x List.mem_cons_self _ (wpAny_bind (mapM_each l (fun v hv => hf v (List.mem_cons_of_mem _ hv)) (wpAny_pure ?_))))
    exact h
/-- what stands first in the tuple -/
def firstV (h : Heap) : Value → Option Value
  | .ref a => match h.get? a with
    | some o => match o.data with
      | .seq xs _ => xs[0]?
      | _ => none
    | none => none
  | _ => none
theorem first_tup {v : Value} {xs : List PyData} {as : List Addr} (r : Reads s.heap v (.tuple xs) as) {Q : Option Value → Shared → Prop} (hq : Q (firstV s.heap v) s) : wpAny (model prog w) A (firstOfTuple' v) Q E s := by
  rw [kas_first_eq]
  refine wpAny_bind ((looks_reads (M := model prog w) r).here ?_)
  cases r with
  | @tuple a o vs n _ _ ho hc hd hr =>
    rw [if_neg (by show ¬ ((Value.type "tuple" != Value.type "tuple") = true); decide)]
    refine wpAny_bind (listItems_at ho hd (wpAny_pure ?_))
    unfold firstV at hq
    simp only [ho,hd] at hq
    exact hq
theorem first_none {v : Value} {as : List Addr} (r : Reads s.heap v (.tuple []) as) : firstV s.heap v = none := by
  cases r with
  | @tuple a o vs n _ _ ho hc hd hr =>
    unfold firstV
    simp only [ho,hd]
    have : vs.toList = [] := by
      cases q : vs.toList with
      | nil => rfl
      | cons f fr => rw [q] at hr; cases hr
    rw [← Array.getElem?_toList, this]; rfl
theorem oneLt_tups {xs ys : List PyData} {a b : Value} {as bs : List Addr} {Q : Bool → Shared → Prop} (ra : Reads s.heap a (.tuple xs) as) (rb : Reads s.heap b (.tuple ys) bs) (hal : PySem.W.alikeAll xs ys = true)
    (hu : A.units + min (PyData.tuple xs).depth (PyData.tuple ys).depth < cLine) (hq : Q (PySem.W.dataLt (.tuple xs) (.tuple ys)) s) : wpAny (model prog w) A (oneLt' true a b) Q E s := by
  cases ra with
  | @tuple l o us n _ _ h1 h2 h3 h4 =>
    cases rb with
    | @tuple l' o' us' n' _ _ k1 k2 k3 k4 =>
      obtain ⟨n1, n2⟩ : us.size = xs.length ∧ us'.size = ys.length := ⟨by simpa using SeqAt.ReadsAll.length _ _ _ h4, by simpa using SeqAt.ReadsAll.length _ _ _ k4⟩
      rw [PySem.W.dataLt_tuple, ← PySem.W.firstLt_toks xs ys hal, ← n1, ← n2] at hq
      rw [oneLt'_eq]
      simp only [if_true]
      have rin : A.in1.units + min (PyData.depthAll xs) (PyData.depthAll ys) < cLine := by
        have e1 : A.in1.units = A.units + 1 := rfl
        rw [e1]
        rw [PyData.depth, PyData.depth] at hu
        omega
      refine wpAny_bind (wpAny_cRoomFor (by omega) (wpAny_bind ?_))
      obtain ⟨⟨c1, d1, dt1, sl1⟩, e1⟩ : ∃ o2, o = o2 := ⟨o, rfl⟩
      subst e1
      obtain ⟨⟨c2, d2, dt2, sl2⟩, e2⟩ : ∃ o2, o' = o2 := ⟨o', rfl⟩
      subst e2
      simp only at h2 h3 k2 k3
      subst h2 h3 k2 k3
      refine wpAny_callSpecialIfBound?_slot (T := "tuple") ⟨_, h1, rfl⟩ F.slot_tuple_lt (call_meets F.slot_tuple_lt ⟨_, h1, rfl⟩ F.entry_tuple_lt (F.args_tuple_lt_2 _ _)
        (SeqAt.tuple_ltAt _ _ us us' _ _ _ _ _ _ (SeqAt.pairEq xs ys) (fun j => PySem.W.dataLt (xs.getD j .none) (ys.getD j .none))) ⟨h1, k1, fun j j1 j2 => ?_, fun j j1 j2 hj => ?_, ?_⟩)
      · have q := PySem.W.eqAt_alikeAll xs ys A.in1 s us.toList us'.toList _ _ h4 k4 hal (by omega) j (by simpa using j1) (by simpa using j2)
        simpa using q
      · have q := PySem.W.rcLt_alikeAll xs ys A.in1 s us.toList us'.toList _ _ h4 k4 hal (by omega) j (by simpa using j1) (by simpa using j2) hj
        simpa using q
      · exact wpAny_truthy_bool hq
/-- the first one is empty -/
def FirstE (ps : List PyData) : Prop := ∃ r, ps = .tuple [] :: r ∧ ∀ d ∈ r, ∃ xs, d = .tuple xs
theorem FirstE.all {ps : List PyData} (h : FirstE ps) : ∀ d ∈ ps, ∃ xs, d = .tuple xs := by
  obtain ⟨r, rfl, q⟩ := h
  intro d hd
  rcases List.mem_cons.mp hd with rfl | hd
  · exact ⟨[], rfl⟩
  · exact q d hd
theorem sortsAt_data {vs : List Value} {ds : List PyData} (e : EachIs (fun v d => ∃ as, Reads s.heap v d as) vs ds) (hal : AllAlike ds) (hk : Sortable ds ∨ FirstE ds) (hu : ∀ d, d ∈ ds → A.units + d.depth + 2 < cLine) : SortsAt prog w A s (dataKind s.heap ds) vs := by
  rcases hk with hk | hk
  · exact SortsAt.data e hal hk fun d hd => by have := hu d hd; omega
  have ht := hk.all
  refine ⟨fun v hv => ?_, oneType', ?_, fun h2 E Q hq => ?_⟩
  · obtain ⟨d, hd, as, r⟩ := e.left v hv
    exact ⟨_, dataKind_some hal hd r⟩
  · intro E x y a b Q ha hb hq
    obtain ⟨d, as, hd, ra, rfl⟩ := dataKind_inv ha
    obtain ⟨d', as', hd', rb, rfl⟩ := dataKind_inv hb
    have hdd := hal d hd d' hd'
    have room := hu d hd
    obtain ⟨xs, rfl⟩ := ht d hd
    obtain ⟨ys, rfl⟩ := ht d' hd'
    rw [keyLt'_oneType]
    exact oneLt_tups ra rb (by simpa [alike] using hdd) (by omega) hq
  · obtain ⟨r, rfl, _⟩ := hk
    obtain ⟨v0, vs', rfl, r0⟩ : ∃ v0 vs', vs = v0 :: vs' ∧ ∃ as, Reads s.heap v0 (.tuple []) as := by
      cases e with
      | cons h t => exact ⟨_, _, rfl, h⟩
    obtain ⟨as0, r0⟩ := r0
    rw [keyKind'_eq, List.mapM_toArray, map_eq_pure_bind]
    refine wpAny_bind (wpAny_bind (mapM_each (g := firstV s.heap) _ (fun v hv Q' q => ?_) (wpAny_pure ?_)))
    · obtain ⟨d, hd, as, rd⟩ := e.left v hv
      obtain ⟨xs, rfl⟩ := ht d hd
      exact first_tup rd q
    · have fn := first_none r0
      rw [if_neg (by simp [fn]), if_neg (by simp [fn])]
      rw [oneTypeOnly'_eq, List.mapM_toArray, map_eq_pure_bind]
      refine wpAny_bind (wpAny_bind (wpAny_bind (mapM_each (g := fun _ => Value.type "tuple") _ (fun v hv Q' q => ?_) (wpAny_pure ?_))))
      · obtain ⟨d, hd, as, rd⟩ := e.left v hv
        obtain ⟨xs, rfl⟩ := ht d hd
        exact (looks_reads (M := model prog w) rd).here q
      · have h0 : (List.map (fun _ => Value.type "tuple") (v0 :: vs')).toArray[0]? = some (Value.type "tuple") := by simp
        have hall : ((List.map (fun _ => Value.type "tuple") (v0 :: vs')).toArray.all fun x => x == Value.type "tuple") = true := by
          simp only [List.all_toArray,List.all_map,List.all_eq_true]
          intro v hv
          exact (by decide : (Value.type "tuple" == Value.type "tuple") = true)
        rw [h0]
        dsimp only
        rw [hall]
        exact wpAny_pure (wpAny_pure hq)
end
/-- what may be sorted: data of one kind at each place -/
structure SrtOk (ps : List PyData) : Prop where
  alike : PySem.W.AllAlike ps
  kind : PySem.W.Sortable ps ∨ FirstE ps
  few : ∀ d ∈ ps, d.depth ≤ 64
def rSortG (K : PySem.W.Frag) : List V → Hp → VK → Prop := fun vs H Q => ∃ (a : Addr) (xs : List V) (ps : List PyData), vs = [V.ref a] ∧ (SqL K H a xs ∨ SqT K H a xs) ∧ DpAll K H xs ps ∧ SrtOk ps ∧
  ∀ p, H p = none → Q (.ref p) (upd H p (.lst (((xs.zip ps).mergeSort (PySem.W.dataLe false (·.2))).map (·.1))))
section
variable {X : Cx}
theorem each_zip {I : L2.St → Prop} {K : PySem.W.Frag} {pins : List (Addr × Obj)} {σ : L2.St} {H : Hp} {s : Shared} (Iv : Inv X pins σ H s) : ∀ {xs : List V} {ps : List PyData} {us : List Value}, DpAll X.K H xs ps → Vals xs us →
    PySem.W.EachIs (fun (v : Value) (b : V × PyData) => RelV b.1 v) us (xs.zip ps) ∧ PySem.W.EachIs (fun (v : Value) (b : V × PyData) => ∃ as, Reads s.heap v b.2 as) us (xs.zip ps) ∧ (xs.zip ps).map (·.2) = ps ∧ (xs.zip ps).length = us.length
  | [], _, _, d, r => by cases d; cases r; exact ⟨.nil, .nil, rfl, rfl⟩
  | x :: xs, _, _, d, r => by
    cases d with
    | cons d1 d2 =>
      cases r with
      | cons r1 r2 =>
        obtain ⟨h1, h2, h3, h4⟩ := each_zip (I := I) (K := K) Iv d2 r2
        refine ⟨.cons r1 h1, .cons (Dp.reads Iv _ _ _ d1 r1) h2, ?_, ?_⟩
        · rw [List.zip_cons_cons, List.map_cons, h3]
        · rw [List.zip_cons_cons, List.length_cons, List.length_cons, h4]
theorem vals_each : ∀ {out : List Value} {bs : List (V × PyData)}, PySem.W.EachIs (fun (v : Value) (b : V × PyData) => RelV b.1 v) out bs → Vals (bs.map (·.1)) out
  | _, _, .nil => .nil
  | _, _, .cons a b => .cons a (vals_each b)
theorem cr_sortG (hu : X.A.units + 70 < cLine) : CallR X (.builtin "sorted") (rSortG X.K) := by
  intro pins s σ H vs us Q I r h
  obtain ⟨a, xs, ps, rfl, hx, hd, ok, q⟩ := h
  rw [Vals.ref1 r]
  obtain ⟨its, rv, o, T, n, ho, hc, hT, hdt, hz⟩ : ∃ (its : List Value), Vals xs its ∧ ∃ (o : Obj) (T : String) (n : Nat), s.heap.get? a = some o ∧ o.cls = .type T ∧ (T = "list" ∨ T = "tuple") ∧ o.data = .seq its.toArray n ∧ xs.length ≤ sizeLine := by
    rcases hx with hx | hx
    · obtain ⟨its, rv, ⟨o, n, h1, h2, _, h3⟩, hz⟩ := I.list hx
      exact ⟨its, rv, o, "list", n, h1, h2, .inl rfl, h3, hz⟩
    · obtain ⟨its, rv, ⟨o, h1, h2, n, h3⟩, hz⟩ := I.tuple hx
      exact ⟨its, rv, o, "tuple", n, h1, h2, .inr rfl, h3, hz⟩
  obtain ⟨e1, e2, e3, e4⟩ := each_zip (I := fun _ => True) (K := X.K) I hd rv
  have er' : PySem.W.EachIs (fun (v : Value) (b : V × PyData) => ∃ as, Reads (PySem.W.sortingHeap (PySem.W.copyHeap s.heap its) (s.heap.objs.size + 1) its) v b.2 as) its (xs.zip ps) := e2.mono fun _ _ ⟨as, r⟩ => ⟨as, PyProof.Rows.Reads.keeps (fun _ _ => PySem.W.sorting_copy_old) r⟩
  have hal : PySem.W.AllAlike ((xs.zip ps).map (·.2)) := by rw [e3]; exact ok.alike
  have hk : PySem.W.Sortable ((xs.zip ps).map (·.2)) ∨ FirstE ((xs.zip ps).map (·.2)) := by rw [e3]; exact ok.kind
  have S := sortsAt_data (prog := X.prog) (w := X.w) (A := X.A.in1.in1) (s := { s with heap := PySem.W.sortingHeap (PySem.W.copyHeap s.heap its) (s.heap.objs.size + 1) its }) (PySem.W.each_map (R := fun v d => ∃ as, Reads (PySem.W.sortingHeap (PySem.W.copyHeap s.heap its) (s.heap.objs.size + 1) its) v d as) (fun b : V × PyData => b.2) er') hal hk (fun d hd' => by
    rw [e3] at hd'
    have := ok.few d hd'
    show X.A.in1.in1.units + d.depth + 2 < cLine
    have u2 : X.A.in1.in1.units = X.A.units + 2 := rfl
    omega)
  refine sorted_seq ho hc hT hdt S (by rw [← e4, List.length_zip]; have := rv.length; omega) ?_
  have out := PySem.W.sortVals_data (R := fun (v : Value) (b : V × PyData) => RelV b.1 v) (enc := (·.2)) false e1 er' hal
  obtain ⟨ep, he'⟩ := PyProof.Rows.sortedAll_at s.heap its (PySem.W.sortVals (PySem.W.dataKind (PySem.W.sortingHeap (PySem.W.copyHeap s.heap its) (s.heap.objs.size + 1) its) ((xs.zip ps).map (·.2))) false its its).toArray
  have hv := vals_each out
  have hlen : (((xs.zip ps).mergeSort (PySem.W.dataLe false (·.2))).map (·.1)).length ≤ sizeLine := by
    rw [List.length_map, List.length_mergeSort, List.length_zip]; omega
  exact ⟨.ref _, upd H (s.heap.objs.size + 1) (.lst (((xs.zip ps).mergeSort (PySem.W.dataLe false (·.2))).map (·.1))), I.laid (t' := s.toks) (fun _ _ => PyProof.Rows.sortedAll_old) (Nat.le_succ _) ⟨hlen, _, ep, hv, he'⟩, rfl, q _ (I.hok.fresh (Nat.le_succ _))⟩
end
end Dw
set_option Elab.async false
set_option linter.all false
set_option maxRecDepth 100000
set_option maxHeartbeats 4000000
/-! Dw5: calls of built-ins on data. -/
namespace Dw
open PySem PySem.Spec PyProof.Rows L2
def dats (M : Mem) : List Rv → Option (List D)
  | [] => some []
  | r :: rs => match r.dat M, dats M rs with
    | some d, some ds => some (d :: ds)
    | _, _ => none
def RepFs (K : PySem.W.Frag) (H h : Hp) : List D → List V → Prop
  | [], vs => vs = []
  | d :: ds, vs => ∃ v us, vs = v :: us ∧ RepF K H h d v ∧ RepFs K H h ds us
theorem Sto.dats {K : PySem.W.Frag} {S A : List Addr} {H : Hp} {M : Mem} (s : Sto K S A H M) : ∀ {rs : List Rv} {vs : List V} {ds : List D}, RepVs K S A H rs vs → dats M rs = some ds → RepFs K H (view S A H) ds vs
  | [], _, _, r, e => by cases r; cases e; rfl
  | r :: rs, _, ds, ⟨v, us, e1, e2, e3⟩, e => by
    subst e1
    unfold Dw.dats at e
    cases z : r.dat M with
    | none => rw [z] at e; cases e
    | some d =>
      cases y : Dw.dats M rs with
      | none => rw [z, y] at e; cases e
      | some es => rw [z, y] at e; cases e; exact ⟨v, us, rfl, s.dat e2 z, Sto.dats s e3 y⟩
def CallD (K : PySem.W.Frag) (r : List V → Hp → VK → Prop) (F : List D → D → Prop) : Prop :=
  ∀ (S A : List Addr) (M : Mem) (H : Hp) (ds : List D) (z : D) (vs : List V) (R : VK), Sto K S A H M → RepFs K H (view S A H) ds vs → F ds z →
    (∀ w H', Same H H' → Rep K (view S A H') z w → R w H') → r vs H R
def wCB (F : List D → D → Prop) (ws : WA) : WE := fun env M Q => ws env M fun rs M1 => ∃ ds, dats M1 rs = some ds ∧ ∃ z, F ds z ∧ Q (.d z) M1
section
variable {X : Cx} {K : PySem.W.Frag} {a b c e : Expr} {es rest : List Expr} {wa wb wc we : WE} {wt wu : WT} {ws : WA} {p pos : Pos} {id T : String} {x : Str}
theorem dn_cb {r : List V → Hp → VK → Prop} {F : List D → D → Prop} {ta : TA} (h2 : CallD K r F) (ha : DnA J K ta ws) : Dn J K (tCB r ta) (wCB F ws) := by
  intro env M Q hw S A σ H R st en k
  refine ha env M _ hw S A σ H _ st en fun vs H1 rs M1 A1 p1 s1 q1 ⟨ds, ed, z, ez, hq⟩ => ?_
  exact h2 S A1 M1 H1 ds z vs R s1 (s1.dats q1 ed) ez fun w H' sm rw => k w H' (.d z) M1 A1 (p1.trans (s1.post sm)) (s1.grow sm) rw hq
theorem qe_cb {r : List V → Hp → VK → Prop} {F : List D → D → Prop} (hc : CallR X (.builtin id) r) (h2 : CallD X.K r F) (hg : Gl X x) (hm : X.mg x = none) (hv : bootBuiltins x = some (.builtin id)) (ha : QA J X (e :: es) ws) (hn : x ≠ "__name__" := by decide) (hdb : (x == ("__debug__" : Str)) = false := by decide)
    (he : starEach (e :: es) X.env = (false, eval e X.env) :: starEach es X.env := by rfl) (hpl : (backTo pos (starEach es X.env)).any (·.1) = false := by rfl) : QE J X (.Call (.Name x p) (e :: es) [] pos) (wCB F ws) := by
  obtain ⟨ta, pa, da⟩ := ha
  exact ⟨_, pe_callB hc hg hm hv pa hn hdb he hpl, dn_cb h2 da⟩
theorem qe_ct {r : List V → Hp → VK → Prop} {F : List D → D → Prop} (hc : CallR X (.type T) r) (h2 : CallD X.K r F) (hg : Gl X x) (hm : X.mg x = none) (hv : bootBuiltins x = some (.type T)) (ha : QA J X (e :: es) ws) (hn : x ≠ "__name__" := by decide) (hdb : (x == ("__debug__" : Str)) = false := by decide)
    (he : starEach (e :: es) X.env = (false, eval e X.env) :: starEach es X.env := by rfl) (hpl : (backTo pos (starEach es X.env)).any (·.1) = false := by rfl) : QE J X (.Call (.Name x p) (e :: es) [] pos) (wCB F ws) := by
  obtain ⟨ta, pa, da⟩ := ha
  exact ⟨_, pe_callTy hc hg hm hv pa hn hdb he hpl, dn_cb h2 da⟩
theorem CallD.or {r r' : List V → Hp → VK → Prop} {F F' : List D → D → Prop} (h : CallD K r F) (h' : CallD K r' F') : CallD K (fun xs H Q => r xs H Q ∨ r' xs H Q) (fun ds z => F ds z ∨ F' ds z) := by
  intro S A M H ds z vs R st q e k
  rcases e with e | e
  · exact .inl (h S A M H ds z vs R st q e k)
  · exact .inr (h' S A M H ds z vs R st q e k)
theorem RepFs.one {H h : Hp} {d : D} {vs : List V} (r : RepFs K H h [d] vs) : ∃ v, vs = [v] ∧ RepF K H h d v := by
  obtain ⟨v, us, e, q, q2⟩ := r
  cases q2
  exact ⟨v, e, q⟩
theorem RepFs.two {H h : Hp} {d e : D} {vs : List V} (r : RepFs K H h [d, e] vs) : ∃ v u, vs = [v, u] ∧ RepF K H h d v ∧ RepF K H h e u := by
  obtain ⟨v, us, e, q, q2⟩ := r
  obtain ⟨u, rfl, q3⟩ := q2.one
  exact ⟨v, u, e, q, q3⟩
/-! ### len -/
def fLen (ds : List D) (z : D) : Prop := match ds with
  | [.str x] => x.length ≤ sizeLine ∧ z = .int x.length
  | [.tup es] => z = .int es.length
  | [.lst es] => z = .int es.length
  | _ => False
theorem d1 {F : List D → D → Prop} {ds : List D} {z : D} (e : F ds z) (h0 : ¬ F [] z) (h2 : ∀ x y r, ¬ F (x :: y :: r) z) : ∃ x, ds = [x] ∧ F [x] z := by
  cases ds with
  | nil => exact (h0 e).elim
  | cons x r =>
    cases r with
    | nil => exact ⟨x, rfl, e⟩
    | cons y r => exact (h2 x y r e).elim
theorem d2 {F : List D → D → Prop} {ds : List D} {z : D} (e : F ds z) (h0 : ¬ F [] z) (h1 : ∀ x, ¬ F [x] z) (h2 : ∀ x y u r, ¬ F (x :: y :: u :: r) z) : ∃ x y, ds = [x, y] ∧ F [x, y] z := by
  cases ds with
  | nil => exact (h0 e).elim
  | cons x r =>
    cases r with
    | nil => exact (h1 x e).elim
    | cons y r =>
      cases r with
      | nil => exact ⟨x, y, rfl, e⟩
      | cons u r => exact (h2 x y u r e).elim
theorem cd_len : CallD K (fun xs H Q => ∃ x n, xs = [x] ∧ LenV K x H n ∧ Q (.int n) H) fLen := by
  intro S A M H ds z vs R st q e k
  obtain ⟨x, rfl, e⟩ := d1 e (fun e => e) (by intro x y r e; cases x <;> exact e)
  obtain ⟨v, rfl, q1⟩ := q.one
  clear q
  have q := q1; clear q1
  cases x with
  | str x =>
    cases q
    obtain ⟨h1, rfl⟩ : x.length ≤ sizeLine ∧ z = .int x.length := e
    exact ⟨_, x.length, rfl, ⟨h1, rfl⟩, k _ H (Same.refl _) rfl⟩
  | tup es =>
    obtain ⟨a, us, rfl, h1, h2⟩ := q
    have e : z = .int es.length := e
    subst e
    exact ⟨_, es.length, rfl, .inr ⟨us, same_t off_sub h1, h2.len.symm⟩, k _ H (Same.refl _) rfl⟩
  | lst es =>
    obtain ⟨a, us, rfl, h1, h2⟩ := q
    have e : z = .int es.length := e
    subst e
    exact ⟨_, es.length, rfl, .inl ⟨us, h1, h2.len.symm⟩, k _ H (Same.refl _) rfl⟩
  | _ => exact False.elim e
theorem qe_len (hg : Gl X "len") (hm : X.mg "len" = none) (ha : QA J X [e] ws) (he : starEach [e] X.env = (false, eval e X.env) :: starEach [] X.env := by rfl) (hpl : (backTo pos (starEach [] X.env)).any (·.1) = false := by rfl) : QE J X (.Call (.Name "len" p) [e] [] pos) (wCB fLen ws) :=
  qe_cb call_len cd_len hg hm boot_len ha (by decide) (by decide) he hpl
/-! ### isinstance of built-in types -/
def D.kind : D → Option String
  | .non => some "NoneType" | .bl _ => some "bool" | .int _ => some "int" | .str _ => some "str" | .tup _ => some "tuple" | .lst _ => some "list" | _ => none
def isiTab (k n : String) : Bool := k == n || (k == "bool" && n == "int")
def isiNames : List String := ["int", "bool", "str", "tuple", "list"]
theorem isi_tab : ∀ k ∈ ["NoneType", "bool", "int", "str", "tuple", "list"], ∀ n ∈ isiNames, kitB k n = some (isiTab k n) := by decide +kernel
def fIsi (ds : List D) (z : D) : Prop := match ds with
  | [x, .ty n] => n ∈ isiNames ∧ ∃ k, x.kind = some k ∧ z = .bl (isiTab k n)
  | _ => False
theorem RepF.ty {H h : Hp} {x : D} {v : V} {k : String} (e : Same h H) (r : RepF K H h x v) (q : x.kind = some k) : TyX K H v (.type k) := by
  cases x with
  | tup ds =>
    obtain ⟨a, vs, rfl, h1, h2⟩ := r
    cases q
    rcases same_t e h1 with (h1 | ⟨o, h1⟩) | ⟨o, its, n, h1, h3, _⟩
    · exact .base (.tup h1)
    · exact .fTuple h1
    · exact .kTuple h1 h3
  | lst ds =>
    obtain ⟨a, vs, rfl, h1, h2⟩ := r
    cases q
    rcases h1 with (h1 | ⟨o, h1⟩) | ⟨o, its, n, h1, h3, _⟩
    · exact .base (.lst h1)
    · exact .base (.frz h1)
    · exact .kList h1 h3
  | non => cases r; cases q; exact .base .non
  | bl b => cases r; cases q; exact .base (.bl b)
  | int i => cases r; cases q; exact .base (.int i)
  | str s => cases r; cases q; exact .base (.str s)
  | _ => cases q
theorem D.kind_mem {x : D} {k : String} (q : x.kind = some k) : k ∈ ["NoneType", "bool", "int", "str", "tuple", "list"] := by
  cases x <;> cases q <;> decide
theorem cd_isi : CallD K (rIsi K) fIsi := by
  intro S A M H ds z vs R st q e k
  obtain ⟨x, y, rfl, e⟩ := d2 e (fun e => e) (by intro x e; cases x <;> exact e) (by intro x y u r e; cases x <;> cases y <;> exact e)
  obtain ⟨v, u, rfl, q1, q2⟩ := q.two
  cases y with
  | ty n =>
    cases q2
    obtain ⟨hn, t, ht, rfl⟩ : n ∈ isiNames ∧ ∃ k, x.kind = some k ∧ z = .bl (isiTab k n) := e
    exact ⟨v, .ty n, .type t, .type n, _, rfl, .ty n, q1.ty off_sub ht, kit_ty (isi_tab t (D.kind_mem ht) n hn), k _ H (Same.refl _) rfl⟩
  | _ => exact False.elim e
theorem qe_isi (hg : Gl X "isinstance") (hm : X.mg "isinstance" = none) (ha : QA J X [a, b] ws) (he : starEach [a, b] X.env = (false, eval a X.env) :: starEach [b] X.env := by rfl) (hpl : (backTo pos (starEach [b] X.env)).any (·.1) = false := by rfl) : QE J X (.Call (.Name "isinstance" p) [a, b] [] pos) (wCB fIsi ws) :=
  qe_cb call_isi cd_isi hg hm boot_isinstance ha (by decide) (by decide) he hpl
/-! ### numbers -/
def fInt (ds : List D) (z : D) : Prop := match ds with
  | [.int i] => z = .int i
  | [.bl k] => z = .int (if k then 1 else 0)
  | _ => False
theorem cd_int : CallD K (fun xs H Q => (∃ i, xs = [.int i] ∧ Q (.int i) H) ∨ ∃ k, xs = [.bl k] ∧ Q (.int (if k then 1 else 0)) H) fInt := by
  intro S A M H ds z vs R st q e k
  obtain ⟨x, rfl, e⟩ := d1 e (fun e => e) (by intro x y r e; cases x <;> exact e)
  obtain ⟨v, rfl, q1⟩ := q.one
  clear q
  have q := q1; clear q1
  cases x with
  | int i => cases q; cases e; exact .inl ⟨i, rfl, k _ H (Same.refl _) rfl⟩
  | bl b => cases q; cases e; exact .inr ⟨b, rfl, k _ H (Same.refl _) rfl⟩
  | _ => exact False.elim e
theorem qe_intc (hg : Gl X "int") (hm : X.mg "int" = none) (ha : QA J X [e] ws) (he : starEach [e] X.env = (false, eval e X.env) :: starEach [] X.env := by rfl) (hpl : (backTo pos (starEach [] X.env)).any (·.1) = false := by rfl) : QE J X (.Call (.Name "int" p) [e] [] pos) (wCB fInt ws) :=
  qe_ct call_int1 cd_int hg hm boot_int ha (by decide) (by decide) he hpl
def fAbs (ds : List D) (z : D) : Prop := match ds with
  | [.int i] => z = .int (if i < 0 then -i else i)
  | _ => False
theorem cd_abs : CallD K (fun xs H Q => ∃ i, xs = [.int i] ∧ Q (.int (if i < 0 then -i else i)) H) fAbs := by
  intro S A M H ds z vs R st q e k
  obtain ⟨x, rfl, e⟩ := d1 e (fun e => e) (by intro x y r e; cases x <;> exact e)
  obtain ⟨v, rfl, q1⟩ := q.one
  clear q
  have q := q1; clear q1
  cases x with
  | int i => cases q; cases e; exact ⟨i, rfl, k _ H (Same.refl _) rfl⟩
  | _ => exact False.elim e
theorem qe_abs (hg : Gl X "abs") (hm : X.mg "abs" = none) (ha : QA J X [e] ws) (he : starEach [e] X.env = (false, eval e X.env) :: starEach [] X.env := by rfl) (hpl : (backTo pos (starEach [] X.env)).any (·.1) = false := by rfl) : QE J X (.Call (.Name "abs" p) [e] [] pos) (wCB fAbs ws) :=
  qe_cb call_abs cd_abs hg hm boot_abs ha (by decide) (by decide) he hpl
def fMax2 (ds : List D) (z : D) : Prop := match ds with
  | [.int i, .int j] => z = .int (max i j)
  | _ => False
def fMin2 (ds : List D) (z : D) : Prop := match ds with
  | [.int i, .int j] => z = .int (min i j)
  | _ => False
theorem cd_max2 : CallD K (fun xs H Q => ∃ i j, xs = [.int i, .int j] ∧ Q (.int (if j > i then j else i)) H) fMax2 := by
  intro S A M H ds z vs R st q e k
  obtain ⟨x, y, rfl, e⟩ := d2 e (fun e => e) (by intro x e; cases x <;> exact e) (by intro x y u r e; cases x <;> cases y <;> exact e)
  obtain ⟨v, u, rfl, q1, q2⟩ := q.two
  cases x with
  | int i =>
    cases y with
    | int j =>
      cases q1; cases q2; cases e
      exact ⟨i, j, rfl, k _ H (Same.refl _) (by
        show V.int _ = V.int _
        congr 1
        by_cases h : j > i
        · rw [if_pos h]; omega
        · rw [if_neg h]; omega)⟩
    | _ => exact False.elim e
  | _ => exact False.elim e
theorem cd_min2 : CallD K (fun xs H Q => ∃ i j, xs = [.int i, .int j] ∧ Q (.int (if j < i then j else i)) H) fMin2 := by
  intro S A M H ds z vs R st q e k
  obtain ⟨x, y, rfl, e⟩ := d2 e (fun e => e) (by intro x e; cases x <;> exact e) (by intro x y u r e; cases x <;> cases y <;> exact e)
  obtain ⟨v, u, rfl, q1, q2⟩ := q.two
  cases x with
  | int i =>
    cases y with
    | int j =>
      cases q1; cases q2; cases e
      exact ⟨i, j, rfl, k _ H (Same.refl _) (by
        show V.int _ = V.int _
        congr 1
        by_cases h : j < i
        · rw [if_pos h]; omega
        · rw [if_neg h]; omega)⟩
    | _ => exact False.elim e
  | _ => exact False.elim e
theorem qe_max2 (hc : X.calm = true) (hg : Gl X "max") (hm : X.mg "max" = none) (ha : QA J X [a, b] ws) (he : starEach [a, b] X.env = (false, eval a X.env) :: starEach [b] X.env := by rfl) (hpl : (backTo pos (starEach [b] X.env)).any (·.1) = false := by rfl) : QE J X (.Call (.Name "max" p) [a, b] [] pos) (wCB fMax2 ws) :=
  qe_cb (call_max2 hc) cd_max2 hg hm boot_max ha (by decide) (by decide) he hpl
theorem qe_min2 (hc : X.calm = true) (hg : Gl X "min") (hm : X.mg "min" = none) (ha : QA J X [a, b] ws) (he : starEach [a, b] X.env = (false, eval a X.env) :: starEach [b] X.env := by rfl) (hpl : (backTo pos (starEach [b] X.env)).any (·.1) = false := by rfl) : QE J X (.Call (.Name "min" p) [a, b] [] pos) (wCB fMin2 ws) :=
  qe_cb (call_min2 hc) cd_min2 hg hm boot_min ha (by decide) (by decide) he hpl
/-! ### of lists -/
def fSum (ds : List D) (z : D) : Prop := ∃ ns : List Int, ds = [.lst (ns.map .int)] ∧ z = .int ns.sum
theorem cd_sum : CallD K (rSum K) fSum := by
  intro S A M H ds z vs R st q e k
  obtain ⟨ns, rfl, rfl⟩ := e
  obtain ⟨v, rfl, a, us, rfl, h1, h2⟩ := q.one
  rw [h2.ints] at h1
  exact ⟨a, ns, rfl, h1, k _ H (Same.refl _) rfl⟩
theorem qe_sum (hc : X.calm = true) (hg : Gl X "sum") (hm : X.mg "sum" = none) (ha : QA J X [e] ws) (he : starEach [e] X.env = (false, eval e X.env) :: starEach [] X.env := by rfl) (hpl : (backTo pos (starEach [] X.env)).any (·.1) = false := by rfl) : QE J X (.Call (.Name "sum" p) [e] [] pos) (wCB fSum ws) :=
  qe_cb (cr_sum hc) cd_sum hg hm boot_sum ha (by decide) (by decide) he hpl
/-- max, min of a list: its value is the one that is there and none greater -/
def fMax (ds : List D) (z : D) : Prop := ∃ (ns : List Int) (m : Int), ds = [.lst (ns.map .int)] ∧ m ∈ ns ∧ (∀ y ∈ ns, y ≤ m) ∧ z = .int m
def fMin (ds : List D) (z : D) : Prop := ∃ (ns : List Int) (m : Int), ds = [.lst (ns.map .int)] ∧ m ∈ ns ∧ (∀ y ∈ ns, m ≤ y) ∧ z = .int m
theorem cd_max : CallD K (rMax K) fMax := by
  intro S A M H ds z vs R st q e k
  obtain ⟨ns, m, rfl, hm, hg, rfl⟩ := e
  obtain ⟨v, rfl, a, us, rfl, h1, h2⟩ := q.one
  rw [h2.ints] at h1
  refine ⟨a, ns, rfl, h1, List.length_pos_of_mem hm, fun m' h3 h4 => ?_⟩
  have e : m' = m := by have := hg m' h3; have := h4 m hm; omega
  subst e
  exact k _ H (Same.refl _) rfl
theorem cd_min : CallD K (rMin K) fMin := by
  intro S A M H ds z vs R st q e k
  obtain ⟨ns, m, rfl, hm, hg, rfl⟩ := e
  obtain ⟨v, rfl, a, us, rfl, h1, h2⟩ := q.one
  rw [h2.ints] at h1
  refine ⟨a, ns, rfl, h1, List.length_pos_of_mem hm, fun m' h3 h4 => ?_⟩
  have e : m' = m := by have := hg m' h3; have := h4 m hm; omega
  subst e
  exact k _ H (Same.refl _) rfl
theorem qe_max (hc : X.calm = true) (hg : Gl X "max") (hm : X.mg "max" = none) (ha : QA J X [e] ws) (he : starEach [e] X.env = (false, eval e X.env) :: starEach [] X.env := by rfl) (hpl : (backTo pos (starEach [] X.env)).any (·.1) = false := by rfl) : QE J X (.Call (.Name "max" p) [e] [] pos) (wCB fMax ws) :=
  qe_cb (cr_max hc) cd_max hg hm boot_max ha (by decide) (by decide) he hpl
theorem qe_min (hc : X.calm = true) (hg : Gl X "min") (hm : X.mg "min" = none) (ha : QA J X [e] ws) (he : starEach [e] X.env = (false, eval e X.env) :: starEach [] X.env := by rfl) (hpl : (backTo pos (starEach [] X.env)).any (·.1) = false := by rfl) : QE J X (.Call (.Name "min" p) [e] [] pos) (wCB fMin ws) :=
  qe_cb (cr_min hc) cd_min hg hm boot_min ha (by decide) (by decide) he hpl
def fAll (ds : List D) (z : D) : Prop := ∃ bs : List Bool, ds = [.lst (bs.map .bl)] ∧ z = .bl (bs.all (fun b => b))
def fAny (ds : List D) (z : D) : Prop := ∃ bs : List Bool, ds = [.lst (bs.map .bl)] ∧ z = .bl (bs.any (fun b => b))
theorem cd_all : CallD K (rAll K) fAll := by
  intro S A M H ds z vs R st q e k
  obtain ⟨bs, rfl, rfl⟩ := e
  obtain ⟨v, rfl, a, us, rfl, h1, h2⟩ := q.one
  rw [h2.bls] at h1
  exact ⟨a, bs, rfl, h1, k _ H (Same.refl _) rfl⟩
theorem cd_any : CallD K (rAny K) fAny := by
  intro S A M H ds z vs R st q e k
  obtain ⟨bs, rfl, rfl⟩ := e
  obtain ⟨v, rfl, a, us, rfl, h1, h2⟩ := q.one
  rw [h2.bls] at h1
  exact ⟨a, bs, rfl, h1, k _ H (Same.refl _) rfl⟩
theorem qe_all (hc : X.calm = true) (hg : Gl X "all") (hm : X.mg "all" = none) (ha : QA J X [e] ws) (he : starEach [e] X.env = (false, eval e X.env) :: starEach [] X.env := by rfl) (hpl : (backTo pos (starEach [] X.env)).any (·.1) = false := by rfl) : QE J X (.Call (.Name "all" p) [e] [] pos) (wCB fAll ws) :=
  qe_cb (cr_all hc) cd_all hg hm boot_all ha (by decide) (by decide) he hpl
theorem qe_any (hc : X.calm = true) (hg : Gl X "any") (hm : X.mg "any" = none) (ha : QA J X [e] ws) (he : starEach [e] X.env = (false, eval e X.env) :: starEach [] X.env := by rfl) (hpl : (backTo pos (starEach [] X.env)).any (·.1) = false := by rfl) : QE J X (.Call (.Name "any" p) [e] [] pos) (wCB fAny ws) :=
  qe_cb (cr_any hc) cd_any hg hm boot_any ha (by decide) (by decide) he hpl
/-- tuple(list or tuple), list(list or tuple) -/
def fTup (ds : List D) (z : D) : Prop := match ds with
  | [x] => ∃ es, x.items = some es ∧ z = .tup es
  | _ => False
def fList (ds : List D) (z : D) : Prop := match ds with
  | [x] => ∃ es, x.items = some es ∧ z = .lst es
  | _ => False
theorem cd_tup : CallD K (fun xs H Q => ∃ p ys, xs = [.ref p] ∧ ((SqL K H p ys ∧ ∀ l, H l = none → Q (.ref l) (upd H l (.tup ys))) ∨ (SqT K H p ys ∧ Q (.ref p) H))) fTup := by
  intro S A M H ds z vs R st q e k
  obtain ⟨x, rfl, e⟩ := d1 e (fun e => e) (by intro x y r e; cases x <;> exact e)
  obtain ⟨es, ei, rfl⟩ : ∃ es, x.items = some es ∧ z = .tup es := e
  obtain ⟨v, rfl, q1⟩ := q.one
  clear q
  have q := q1; clear q1
  cases x with
  | tup fs =>
    cases ei
    obtain ⟨a, us, rfl, h1, h2⟩ := q
    exact ⟨a, us, rfl, .inr ⟨same_t off_sub h1, k _ H (Same.refl _) ⟨a, us, rfl, h1, h2⟩⟩⟩
  | lst fs =>
    cases ei
    obtain ⟨a, us, rfl, h1, h2⟩ := q
    refine ⟨a, us, rfl, .inl ⟨h1, fun l hl => ?_⟩⟩
    have sm := same_upd (o := .tup us) hl
    exact k _ _ sm ⟨l, us, rfl, .inl (.inl (view_at st hl)), Reps.mono (off_same sm) _ _ h2⟩
  | _ => cases ei
theorem cd_list : CallD K (fun xs H Q => ∃ p ys, xs = [.ref p] ∧ (SqL K H p ys ∨ SqT K H p ys) ∧ ∀ l, H l = none → Q (.ref l) (upd H l (.lst ys))) fList := by
  intro S A M H ds z vs R st q e k
  obtain ⟨x, rfl, e⟩ := d1 e (fun e => e) (by intro x y r e; cases x <;> exact e)
  obtain ⟨es, ei, rfl⟩ : ∃ es, x.items = some es ∧ z = .lst es := e
  obtain ⟨v, rfl, q1⟩ := q.one
  clear q
  have q := q1; clear q1
  obtain ⟨a, us, rfl, h1, h2⟩ := q.items off_sub ei
  refine ⟨a, us, rfl, h1, fun l hl => ?_⟩
  have sm := same_upd (o := .lst us) hl
  exact k _ _ sm ⟨l, us, rfl, .inl (.inl (view_at st hl)), Reps.mono (off_same sm) _ _ h2⟩
theorem qe_tuple (hg : Gl X "tuple") (hm : X.mg "tuple" = none) (ha : QA J X [e] ws) (he : starEach [e] X.env = (false, eval e X.env) :: starEach [] X.env := by rfl) (hpl : (backTo pos (starEach [] X.env)).any (·.1) = false := by rfl) : QE J X (.Call (.Name "tuple" p) [e] [] pos) (wCB fTup ws) :=
  qe_ct call_tuple_of cd_tup hg hm boot_tuple ha (by decide) (by decide) he hpl
theorem qe_list (hg : Gl X "list") (hm : X.mg "list" = none) (ha : QA J X [e] ws) (he : starEach [e] X.env = (false, eval e X.env) :: starEach [] X.env := by rfl) (hpl : (backTo pos (starEach [] X.env)).any (·.1) = false := by rfl) : QE J X (.Call (.Name "list" p) [e] [] pos) (wCB fList ws) :=
  qe_ct call_list_of cd_list hg hm boot_list ha (by decide) (by decide) he hpl
/-! ### sorted -/
def D.key (d : D) : PyData := d.py.getD .none
def dLeB (a b : D) : Bool := PySem.W.dataLe false D.key a b
def fSorted (ds : List D) (z : D) : Prop := match ds with
  | [x] => ∃ es ps, x.items = some es ∧ D.pys es = some ps ∧ SrtOk ps ∧ z = .lst (es.mergeSort dLeB)
  | _ => False
theorem trip {h : Hp} : ∀ {es : List D} {vs : List V} {ps : List PyData}, Reps K h es vs → D.pys es = some ps → ∃ ts : List (D × V × PyData), ts.map (·.1) = es ∧ ts.map (·.2) = vs.zip ps ∧ ∀ t ∈ ts, Rep K h t.1 t.2.1 ∧ t.1.py = some t.2.2
  | [], _, _, r, e => by cases r; simp [D.pys] at e; subst e; exact ⟨[], rfl, rfl, by simp⟩
  | d :: es, _, ps, ⟨v, us, e1, e2, e3⟩, e => by
    subst e1
    cases z : D.py d with
    | none => simp [D.pys, z] at e
    | some a =>
      cases y : D.pys es with
      | none => simp [D.pys, z, y] at e
      | some b =>
        simp [D.pys, z, y] at e
        subst e
        obtain ⟨ts, h1, h2, h3⟩ := trip e3 y
        refine ⟨(d, v, a) :: ts, by rw [List.map_cons, h1], by rw [List.map_cons, h2]; rfl, fun t ht => ?_⟩
        rcases List.mem_cons.mp ht with rfl | ht
        · exact ⟨e2, z⟩
        · exact h3 t ht
theorem reps_of {h : Hp} : ∀ {ts : List (D × V × PyData)}, (∀ t ∈ ts, Rep K h t.1 t.2.1) → Reps K h (ts.map (·.1)) (ts.map (·.2.1))
  | [], _ => rfl
  | t :: ts, q => ⟨_, _, rfl, q t List.mem_cons_self, reps_of fun u hu => q u (List.mem_cons_of_mem _ hu)⟩
theorem cd_sorted : CallD K (rSortG K) fSorted := by
  intro S A M H ds z vs R st q e k
  obtain ⟨x, rfl, e⟩ := d1 e (fun e => e) (by intro x y r e; cases x <;> exact e)
  obtain ⟨es, ps, ei, ep, ok, rfl⟩ : ∃ es ps, x.items = some es ∧ D.pys es = some ps ∧ SrtOk ps ∧ z = .lst (es.mergeSort dLeB) := e
  obtain ⟨v, rfl, q1⟩ := q.one
  clear q
  have q := q1; clear q1
  obtain ⟨a, us, rfl, h1, h2⟩ := q.items off_sub ei
  refine ⟨a, us, ps, rfl, h1, Reps.dp off_sub es us ps h2 ep, ok, fun p hp => ?_⟩
  obtain ⟨ts, t1, t2, t3⟩ := trip h2 ep
  have m1 : (ts.mergeSort (fun t u => PySem.W.dataLe false (fun b : V × PyData => b.2) t.2 u.2)).map (·.1) = es.mergeSort dLeB := by
    rw [← t1]
    refine List.map_mergeSort fun t ht u hu => ?_
    have a1 : D.key t.1 = t.2.2 := by unfold D.key; rw [(t3 t ht).2]; rfl
    have a2 : D.key u.1 = u.2.2 := by unfold D.key; rw [(t3 u hu).2]; rfl
    unfold dLeB PySem.W.dataLe PySem.W.sortLe
    dsimp only
    rw [a1, a2]
  have m2 : (ts.mergeSort (fun t u => PySem.W.dataLe false (fun b : V × PyData => b.2) t.2 u.2)).map (·.2) = (us.zip ps).mergeSort (PySem.W.dataLe false (·.2)) := by
    rw [← t2]
    exact List.map_mergeSort fun t ht u hu => rfl
  have sm := same_upd (o := .lst (((us.zip ps).mergeSort (PySem.W.dataLe false (·.2))).map (·.1))) hp
  refine k _ _ sm ⟨p, _, rfl, .inl (.inl (view_at st hp)), Reps.mono (off_same sm) _ _ ?_⟩
  rw [← m1, ← m2, List.map_map]
  exact reps_of fun t ht => (t3 t (List.mem_mergeSort.mp ht)).1
theorem qe_sorted (hu : X.A.units + 70 < cLine) (hg : Gl X "sorted") (hm : X.mg "sorted" = none) (ha : QA J X [e] ws) (he : starEach [e] X.env = (false, eval e X.env) :: starEach [] X.env := by rfl) (hpl : (backTo pos (starEach [] X.env)).any (·.1) = false := by rfl) : QE J X (.Call (.Name "sorted" p) [e] [] pos) (wCB fSorted ws) :=
  qe_cb (cr_sortG hu) cd_sorted hg hm boot_sorted ha (by decide) (by decide) he hpl
end
end Dw
set_option Elab.async false
set_option linter.all false
set_option maxRecDepth 100000
set_option maxHeartbeats 4000000
/-! Dw6: targets, what is walked, comprehensions. -/
namespace Dw
open PySem PySem.Spec PyProof.Rows L2
/-! ### more room -/
section
variable {K : PySem.W.Frag} {S S' A A' : List Addr} {H H' : Hp} {M M' : Mem} {env : Env'} {σ : L2.St}
theorem RepV.to {r : Rv} {v : V} (h : RepV K S A H r v) (p : A <+: A') (e : Same (view S A H) (view S' A' H')) : RepV K S' A' H' r v := by
  cases r with
  | d x => exact Rep.mono e x v h
  | o k =>
    obtain ⟨a, q, rfl⟩ := h
    obtain ⟨t, rfl⟩ := p
    have hk : k < A.length := (List.getElem?_eq_some_iff.mp q).1
    exact ⟨a, by rw [List.getElem?_append_left hk]; exact q, rfl⟩
theorem EnvOk.to (h : EnvOk J K S A H env σ) (p : A <+: A') (e : Same (view S A H) (view S' A' H')) (hs : ∀ a ∈ S, a ∈ S') (hh : ∀ a ∈ S, H' a = H a) : EnvOk J K S' A' H' env σ :=
  ⟨⟨fun a ha => hs a (h.j.sub a ha), fun a ha => (hh a (h.j.sub a ha)).trans (h.j.hid a ha), h.j.view.trans e⟩, h.len, fun i r q => let ⟨v, e1, e2⟩ := h.at_ i r q; ⟨v, e1, e2.to p e⟩⟩
theorem MOk.to {a : Addr} {mo : MO} (h : MOk K S A H a mo) (k : H' a = H a) (e : Same (view S A H) (view S' A' H')) : MOk K S' A' H' a mo := h.on (fun o q => by rw [k]; exact q) e
end
/-! ### targets -/
abbrev WG := Rv → Env' → Mem → (Env' → Mem → Prop) → Prop
abbrev WGs := List D → Env' → Mem → (Env' → Mem → Prop) → Prop
/-- ss: the slots that are stored -/
def DnG (J : Bs) (K : PySem.W.Frag) (ss : List Nat) (g : TG) (wg : WG) : Prop := ∀ r env M Q, wg r env M Q → ∀ (S A : List Addr) (σ : L2.St) (H : Hp) (v : V) (R : L2.St → Hp → Prop), Sto K S A H M → EnvOk J K S A H env σ → RepV K S A H r v →
  (∀ (σ' : L2.St) (H' : Hp) (env' : Env') (M' : Mem) (A' : List Addr), Post S A H A' H' → Sto K S A' H' M' → EnvOk J K S A' H' env' σ' → (∀ vs : List Nat, (∀ i ∈ ss, i ∈ vs) → wipe σ' vs = wipe σ vs) → Q env' M' → R σ' H') → g v σ H R
def DnGs (J : Bs) (K : PySem.W.Frag) (ss : List Nat) (g : TGs) (wg : WGs) : Prop := ∀ ds env M Q, wg ds env M Q → ∀ (S A : List Addr) (σ : L2.St) (H : Hp) (vs : List V) (R : L2.St → Hp → Prop), Sto K S A H M → EnvOk J K S A H env σ → Reps K (view S A H) ds vs →
  (∀ (σ' : L2.St) (H' : Hp) (env' : Env') (M' : Mem) (A' : List Addr), Post S A H A' H' → Sto K S A' H' M' → EnvOk J K S A' H' env' σ' → (∀ vs : List Nat, (∀ i ∈ ss, i ∈ vs) → wipe σ' vs = wipe σ vs) → Q env' M' → R σ' H') → g vs σ H R
def QG (J : Bs) (X : Cx) (ss : List Nat) (tg : Expr) (wg : WG) : Prop := ∃ g, PG X tg g ∧ DnG J X.K ss g wg
def QGs (J : Bs) (X : Cx) (ss : List Nat) (tgs : List Expr) (wg : WGs) : Prop := ∃ g, PGs X tgs g ∧ DnGs J X.K ss g wg
def gN (i : Nat) : WG := fun r env M Q => Q (env.set i (some r)) M
def gsNil : WGs := fun ds env M Q => ds = [] ∧ Q env M
def gsCons (g : WG) (gs : WGs) : WGs := fun ds env M Q => ∃ d, ds.head? = some d ∧ g (.d d) env M fun env1 M1 => gs ds.tail env1 M1 Q
theorem wipe_set {σ : L2.St} {i : Nat} {x : Option V} : ∀ {vs : List Nat}, i ∈ vs → wipe (σ.set i x) vs = wipe σ vs
  | v :: vs, h => by
    unfold wipe
    by_cases hi : i ∈ vs
    · rw [wipe_set hi]
    · have e : i = v := by
        rcases List.mem_cons.mp h with h | h
        · exact h
        · exact (hi h).elim
      subst e
      have : ∀ ws : List Nat, i ∉ ws → wipe (σ.set i x) ws = (wipe σ ws).set i x := by
        intro ws
        induction ws with
        | nil => intro _; rfl
        | cons w ws ih =>
          intro hw
          unfold wipe
          rw [ih (fun z => hw (List.mem_cons_of_mem _ z)), List.set_comm _ _ (fun z => hw (by rw [z]; exact List.mem_cons_self))]
      rw [this vs hi, List.set_set]
section
variable {X : Cx} {K : PySem.W.Frag} {pos : Pos} {ss : List Nat} {e : Expr} {es : List Expr}
theorem dn_gN {i : Nat} : DnG J K [i] (gName i) (gN i) := by
  intro r env M Q hw S A σ H v R st en rv k
  exact k _ H _ M A Post.refl st (en.set rv) (fun vs h => wipe_set (h i (by simp))) hw
theorem qg_name {i : Nat} {x : Str} (hN : X.N.Nodup) (hi : X.N[i]? = some x) (hx : Loc X.env.scope x) (hf : X.fn x = true ∨ X.env.scope.names.lookup x = some .local := by first | exact .inl rfl | exact .inr rfl | assumption) : QG J X [i] (.Name x pos) (gN i) :=
  ⟨_, pg_name hN hi hx hf, dn_gN⟩
theorem qgs_nil : QGs J X [] [] gsNil := by
  refine ⟨_, pgs_nil, fun ds env M Q hw S A σ H vs R st en rv k => ?_⟩
  obtain ⟨rfl, hw⟩ := hw
  cases rv
  exact ⟨rfl, k σ H env M A Post.refl st en (fun _ _ => rfl) hw⟩
theorem dn_gcons {s1 s2 : List Nat} {g : TG} {gs : TGs} {wg : WG} {wgs : WGs} (h : DnG J K s1 g wg) (hs : DnGs J K s2 gs wgs) : DnGs J K (s1 ++ s2) (gCons g gs) (gsCons wg wgs) := by
  intro ds env M Q hw S A σ H vs R st en rv k
  obtain ⟨d, ed, hw⟩ := hw
  obtain ⟨r, rfl⟩ : ∃ r, ds = d :: r := ⟨ds.tail, headTail ed⟩
  obtain ⟨v, us, rfl, r1, r2⟩ := rv
  refine ⟨v, us, rfl, h _ env M _ hw S A σ H v _ st en r1 fun σ1 H1 env1 M1 A1 p1 s1' e1 w1 hw1 => ?_⟩
  refine hs _ env1 M1 _ hw1 S A1 σ1 H1 us _ s1' e1 (Reps.mono p1.view _ _ r2) fun σ2 H2 env2 M2 A2 p2 s2' e2 w2 hq => ?_
  exact k σ2 H2 env2 M2 A2 (p1.trans p2) s2' e2 (fun vs hv => (w2 vs fun i hi => hv i (List.mem_append_right _ hi)).trans (w1 vs fun i hi => hv i (List.mem_append_left _ hi))) hq
theorem qgs_cons {s1 s2 : List Nat} {wg : WG} {wgs : WGs} (h : QG J X s1 e wg) (g : QGs J X s2 es wgs)
    (hs : (assignEach (e :: es) X.env).map (·.2) = assign e X.env :: (assignEach es X.env).map (·.2) := by rfl) : QGs J X (s1 ++ s2) (e :: es) (gsCons wg wgs) := by
  obtain ⟨t, p, d⟩ := h
  obtain ⟨ts, ps, ds⟩ := g
  exact ⟨_, pgs_cons p ps hs, dn_gcons d ds⟩
end
section
variable {X : Cx} {K : PySem.W.Frag} {pos : Pos} {ss : List Nat} {e : Expr} {es : List Expr}
/-- n names out of a tuple of n -/
def gTn (n : Nat) (gs : WGs) : WG := fun r env M Q => ∃ ds, r = .d (.tup ds) ∧ ds.length = n ∧ gs ds env M Q
theorem qg_tupn {kk : Nat} {wgs : WGs} {n : Nat} (hc : X.calm = true) (h : QGs J X ss es wgs)
    (hn : (assignEach es X.env).length = n := by rfl) (hst : (assignEach es X.env).findIdx? (·.1) = none := by rfl) : QG J X ss (.Tuple es kk pos) (gTn n wgs) := by
  obtain ⟨ts, ps, dd⟩ := h
  refine ⟨_, pg_tup hc ps hn hst, fun r env M Q hw S A σ H v R st en rv k => ?_⟩
  obtain ⟨ds, rfl, hl, hw⟩ := hw
  obtain ⟨a, vs, rfl, h1, h2⟩ := rv
  refine ⟨a, vs, rfl, same_t off_sub h1, by rw [h2.len]; exact hl, ?_⟩
  exact dd ds env M Q hw S A σ H vs R st en h2 k
end

/-! ### what is walked -/
/-- J walks the items ds, in any later heap -/
def Wlk (K : PySem.W.Frag) (S A : List Addr) (H : Hp) (J : It) (ds : List D) : Prop :=
  ∀ (S' A' : List Addr) (H' : Hp), Same (view S A H) (view S' A' H') → (∀ a ∈ S' ++ A', ∃ o, H' a = some o) →
    (∀ (i : Nat) (d : D), ds[i]? = some d → J.go i H' ∧ ∀ x H2, J.yld i H' x H2 → Same H' H2 ∧ Rep K (view S' A' H2) d x) ∧ ∀ i, ds.length ≤ i → J.stop i H'
abbrev WI := Env' → Mem → (List D → Mem → Prop) → Prop
def DnI (J : Bs) (K : PySem.W.Frag) (ti : TI) (wi : WI) : Prop := ∀ env M Q, wi env M Q → ∀ (S A : List Addr) (σ : L2.St) (H : Hp) (R : It → Hp → Prop), Sto K S A H M → EnvOk J K S A H env σ →
  (∀ (J : It) (H' : Hp) (ds : List D) (M' : Mem) (A' : List Addr), Post S A H A' H' → Sto K S A' H' M' → Wlk K S A' H' J ds → Q ds M' → R J H') → ti σ H R
def QI (J : Bs) (X : Cx) (tg iter : Expr) (wi : WI) : Prop := ∃ ti, PI X tg iter ti ∧ DnI J X.K ti wi
section
variable {X : Cx} {K : PySem.W.Frag} {tg e a b : Expr} {we : WE} {ws : WA} {p pos : Pos}
def iL (we : WE) : WI := fun env M Q => we env M fun r M1 => ∃ ds, r = .d (.lst ds) ∧ Q ds M1
def iT (we : WE) : WI := fun env M Q => we env M fun r M1 => ∃ ds, r = .d (.tup ds) ∧ Q ds M1
theorem wlk_l {S A : List Addr} {H : Hp} {a : Addr} {vs : List V} {ds : List D} (h1 : SqL K (view S A H) a vs) (h2 : Reps K (view S A H) ds vs) : Wlk K S A H (Itl K a) ds := by
  intro S' A' H' sm tr
  have h3 : SqL K H' a vs := same_l (sm.trans off_sub) h1
  have h4 := Reps.mono sm _ _ h2
  refine ⟨fun i d e => ?_, fun i hi => ⟨vs, h3, by rw [h4.len]; exact hi⟩⟩
  obtain ⟨v, e1, e2⟩ := h4.get e
  refine ⟨⟨vs, v, h3, e1⟩, fun x H2 y => ?_⟩
  obtain ⟨rfl, y⟩ := y
  have := y vs h3
  rw [e1] at this
  cases this
  exact ⟨Same.refl _, e2⟩

theorem wlk_t {S A : List Addr} {H : Hp} {a : Addr} {vs : List V} {ds : List D} (h1 : SqT K (view S A H) a vs) (h2 : Reps K (view S A H) ds vs) : Wlk K S A H (Itt K a) ds := by
  intro S' A' H' sm tr
  have h3 : SqT K H' a vs := same_t (sm.trans off_sub) h1
  have h4 := Reps.mono sm _ _ h2
  refine ⟨fun i d e => ?_, fun i hi => ⟨vs, h3, by rw [h4.len]; exact hi⟩⟩
  obtain ⟨v, e1, e2⟩ := h4.get e
  refine ⟨⟨vs, v, h3, e1⟩, fun x H2 y => ?_⟩
  obtain ⟨rfl, y⟩ := y
  have := y vs h3
  rw [e1] at this
  cases this
  exact ⟨Same.refl _, e2⟩
theorem qi_list (h : QE J X e we) : QI J X tg e (iL we) := by
  obtain ⟨te, pe, de⟩ := h
  refine ⟨_, pi_list pe, fun env M Q hw S A σ H R st en k => ?_⟩
  refine de env M _ hw S A σ H _ st en fun v H1 x M1 A1 p1 s1 q1 ⟨ds, e, hq⟩ => ?_
  subst e
  obtain ⟨a, vs, rfl, h1, h2⟩ := q1
  exact ⟨a, rfl, ⟨vs, same_l off_sub h1⟩, k _ H1 ds M1 A1 p1 s1 (wlk_l h1 h2) hq⟩
theorem qi_tup (h : QE J X e we) : QI J X tg e (iT we) := by
  obtain ⟨te, pe, de⟩ := h
  refine ⟨_, pi_tup pe, fun env M Q hw S A σ H R st en k => ?_⟩
  refine de env M _ hw S A σ H _ st en fun v H1 x M1 A1 p1 s1 q1 ⟨ds, e, hq⟩ => ?_
  subst e
  obtain ⟨a, vs, rfl, h1, h2⟩ := q1
  exact ⟨a, rfl, ⟨vs, same_t off_sub h1⟩, k _ H1 ds M1 A1 p1 s1 (wlk_t h1 h2) hq⟩
/-- lo, lo + 1, .. -/
def rngD (lo : Int) (n : Nat) : List D := (List.range n).map fun i => .int (lo + (i : Nat))
theorem rngD_get {lo : Int} {n i : Nat} {d : D} (h : (rngD lo n)[i]? = some d) : i < n ∧ d = .int (lo + (i : Nat)) := by
  unfold rngD at h
  rw [List.getElem?_map] at h
  by_cases hi : i < n
  · rw [List.getElem?_range hi] at h
    simp at h
    exact ⟨hi, h.symm⟩
  · rw [List.getElem?_eq_none (by simpa using hi)] at h
    cases h
theorem rngD_len {lo : Int} {n : Nat} : (rngD lo n).length = n := by simp [rngD]
theorem wlk_r {S A : List Addr} {H : Hp} {lo : Int} {n : Nat} : Wlk K S A H (Itr lo n) (rngD lo n) := by
  intro S' A' H' sm tr
  refine ⟨fun i d e => ?_, fun i hi => by rw [rngD_len] at hi; exact hi⟩
  obtain ⟨h1, rfl⟩ := rngD_get e
  exact ⟨h1, fun x H2 ⟨y1, y2⟩ => by subst y1; exact ⟨Same.refl _, y2⟩⟩
def iR1 (ws : WA) : WI := fun env M Q => ws env M fun rs M1 => ∃ j, rs = [.d (.int j)] ∧ (-(2 ^ 62) ≤ j ∧ j < 2 ^ 62) ∧ Q (rngD 0 j.toNat) M1
def iR2 (ws : WA) : WI := fun env M Q => ws env M fun rs M1 => ∃ i, rs.head? = some (.d (.int i)) ∧ ∃ j, rs.tail = [.d (.int j)] ∧ (-(2 ^ 62) ≤ i ∧ i < 2 ^ 62 ∧ -(2 ^ 62) ≤ j ∧ j < 2 ^ 62) ∧ Q (rngD i (j - i).toNat) M1
theorem qi_range1 (hg : Gl X "range") (hm : X.mg "range" = none) (h : QA J X [a] ws) (hs : starEach [a] X.env = [(false, eval a X.env)] := by rfl) : QI J X tg (.Call (.Name "range" p) [a] [] pos) (iR1 ws) := by
  obtain ⟨ta, pa, da⟩ := h
  refine ⟨_, pi_range1 hg hm pa hs, fun env M Q hw S A σ H R st en k => ?_⟩
  refine da env M _ hw S A σ H _ st en fun vs H1 rs M1 A1 p1 s1 q1 ⟨j, e, ⟨h1, h2⟩, hq⟩ => ?_
  subst e
  obtain ⟨v, us, rfl, r1, r2⟩ := q1
  cases r1
  cases r2
  exact ⟨j, rfl, h1, h2, k _ H1 _ M1 A1 p1 s1 wlk_r hq⟩
theorem qi_range2 (hg : Gl X "range") (hm : X.mg "range" = none) (h : QA J X [a, b] ws) (hs : starEach [a, b] X.env = [(false, eval a X.env), (false, eval b X.env)] := by rfl) (hs2 : starEach [b] X.env = [(false, eval b X.env)] := by rfl) : QI J X tg (.Call (.Name "range" p) [a, b] [] pos) (iR2 ws) := by
  obtain ⟨ta, pa, da⟩ := h
  refine ⟨_, pi_range2 hg hm pa hs hs2, fun env M Q hw S A σ H R st en k => ?_⟩
  refine da env M _ hw S A σ H _ st en fun vs H1 rs M1 A1 p1 s1 q1 ⟨i, ei, j, ej, h1, hq⟩ => ?_
  have e : rs = [.d (.int i), .d (.int j)] := by rw [headTail ei, ej]
  subst e
  obtain ⟨v, us, rfl, r1, u, us2, rfl, r2, r3⟩ := q1
  cases r1
  cases r2
  cases r3
  exact ⟨i, j, rfl, h1, k _ H1 _ M1 A1 p1 s1 wlk_r hq⟩
/-- zip of two lists or two tuples -/
def zipD (as bs : List D) : List D := List.zipWith (fun x y => .tup [x, y]) as bs
def zipA : List Rv → Option (List D × List D)
  | [.d (.lst a), .d (.lst b)] => some (a, b)
  | [.d (.tup a), .d (.tup b)] => some (a, b)
  | _ => none
theorem zipA_is {rs : List Rv} {ab : List D × List D} (h : zipA rs = some ab) : rs = [.d (.lst ab.1), .d (.lst ab.2)] ∨ rs = [.d (.tup ab.1), .d (.tup ab.2)] := by
  unfold zipA at h
  split at h
  · cases h; exact .inl rfl
  · cases h; exact .inr rfl
  · cases h
def iZ (ws : WA) : WI := fun env M Q => ws env M fun rs M1 => ∃ ab, zipA rs = some ab ∧ Q (zipD ab.1 ab.2) M1
theorem rep_pair {S A : List Addr} {H : Hp} {x y : D} {v u : V} {T : Addr} (r1 : Rep K (view S A H) x v) (r2 : Rep K (view S A H) y u) (hT : H T = none) (tr : ∀ a ∈ S ++ A, ∃ o, H a = some o) : Rep K (view S A (upd H T (.tup [v, u]))) (.tup [x, y]) (.ref T) := by
  have sm := same_upd (o := .tup [v, u]) hT
  have nT : T ∉ S ++ A := fun z => by obtain ⟨o, e⟩ := tr T z; rw [hT] at e; cases e
  exact ⟨T, [v, u], rfl, .inl (.inl (off_of nT upd_same)), ⟨v, [u], rfl, Rep.mono (off_same sm) _ _ r1, u, [], rfl, Rep.mono (off_same sm) _ _ r2, rfl⟩⟩
theorem zipD_get {as bs : List D} {i : Nat} {d : D} (h : (zipD as bs)[i]? = some d) : ∃ x y, as[i]? = some x ∧ bs[i]? = some y ∧ d = .tup [x, y] := by
  unfold zipD at h
  rw [List.getElem?_zipWith] at h
  cases ha : as[i]? with
  | none => rw [ha] at h; cases h
  | some x =>
    cases hb : bs[i]? with
    | none => rw [ha, hb] at h; cases h
    | some y => rw [ha, hb] at h; cases h; exact ⟨x, y, rfl, rfl, rfl⟩
theorem qi_zip {elts : List Expr} {kk : Nat} {tpos : Pos} (hg : Gl X "zip") (hm : X.mg "zip" = none) (h : QA J X [a, b] ws) (hs : starEach [a, b] X.env = (false, eval a X.env) :: starEach [b] X.env := by rfl) (hpl : (backTo pos (starEach [b] X.env)).any (·.1) = false := by rfl) : QI J X (.Tuple elts kk tpos) (.Call (.Name "zip" p) [a, b] [] pos) (iZ ws) := by
  obtain ⟨ta, pa, da⟩ := h
  refine ⟨_, RZ.pi_zipA hg hm pa hs hpl, fun env M Q hw S A σ H R st en k => ?_⟩
  refine da env M _ hw S A σ H _ st en fun vs H1 rs M1 A1 p1 s1 q1 ⟨⟨as, bs⟩, e, hq⟩ => ?_
  rcases zipA_is e with e | e
  · subst e
    obtain ⟨v, us, rfl, ⟨p, xs, rfl, g1, g2⟩, u, us2, rfl, ⟨q, ys, rfl, g3, g4⟩, r3⟩ := q1
    cases r3
    refine ⟨p, q, xs, ys, rfl, .inl ⟨same_l off_sub g1, same_l off_sub g3, k _ H1 _ M1 A1 p1 s1 (fun S' A' H' sm tr => ?_) hq⟩⟩
    have h1 : SqL X.K H' p xs := same_l (sm.trans off_sub) g1
    have h3 : SqL X.K H' q ys := same_l (sm.trans off_sub) g3
    have h2 := Reps.mono sm _ _ g2
    have h4 := Reps.mono sm _ _ g4
    refine ⟨fun i d e => ?_, fun i hi => ⟨xs, ys, h1, h3, ?_⟩⟩
    · obtain ⟨x, y, ex, ey, rfl⟩ := zipD_get e
      obtain ⟨v, e1, e2⟩ := h2.get ex
      obtain ⟨u, e3, e4⟩ := h4.get ey
      refine ⟨⟨xs, ys, v, u, h1, h3, e1, e3⟩, fun w H2 yl => ?_⟩
      obtain ⟨T, x', y', rfl, hT, rfl, f1, f2⟩ := yl
      have := f1 xs h1
      rw [e1] at this
      cases this
      have := f2 ys h3
      rw [e3] at this
      cases this
      exact ⟨same_upd hT, rep_pair e2 e4 hT tr⟩
    · have := h2.len; have := h4.len
      unfold zipD at hi
      rw [List.length_zipWith] at hi
      omega
  · subst e
    obtain ⟨v, us, rfl, ⟨p, xs, rfl, g1, g2⟩, u, us2, rfl, ⟨q, ys, rfl, g3, g4⟩, r3⟩ := q1
    cases r3
    refine ⟨p, q, xs, ys, rfl, .inr ⟨same_t off_sub g1, same_t off_sub g3, k _ H1 _ M1 A1 p1 s1 (fun S' A' H' sm tr => ?_) hq⟩⟩
    have h1 : SqT X.K H' p xs := same_t (sm.trans off_sub) g1
    have h3 : SqT X.K H' q ys := same_t (sm.trans off_sub) g3
    have h2 := Reps.mono sm _ _ g2
    have h4 := Reps.mono sm _ _ g4
    refine ⟨fun i d e => ?_, fun i hi => ⟨xs, ys, h1, h3, ?_⟩⟩
    · obtain ⟨x, y, ex, ey, rfl⟩ := zipD_get e
      obtain ⟨v, e1, e2⟩ := h2.get ex
      obtain ⟨u, e3, e4⟩ := h4.get ey
      refine ⟨⟨xs, ys, v, u, h1, h3, e1, e3⟩, fun w H2 yl => ?_⟩
      obtain ⟨T, x', y', rfl, hT, rfl, f1, f2⟩ := yl
      have := f1 xs h1
      rw [e1] at this
      cases this
      have := f2 ys h3
      rw [e3] at this
      cases this
      exact ⟨same_upd hT, rep_pair e2 e4 hT tr⟩
    · have := h2.len; have := h4.len
      unfold zipD at hi
      rw [List.length_zipWith] at hi
      omega
/-- the signs of a text -/
def strD (x : Str) : List D := x.cps.toList.map fun c => .str ⟨#[c]⟩
def iS (we : WE) : WI := fun env M Q => we env M fun r M1 => ∃ x, r = .d (.str x) ∧ Q (strD x) M1
theorem qi_str (h : QE J X e we) : QI J X tg e (iS we) := by
  obtain ⟨te, pe, de⟩ := h
  refine ⟨_, pi_str pe, fun env M Q hw S A σ H R st en k => ?_⟩
  refine de env M _ hw S A σ H _ st en fun v H1 x M1 A1 p1 s1 q1 ⟨y, e, hq⟩ => ?_
  subst e
  cases q1
  refine ⟨y, rfl, k _ H1 _ M1 A1 p1 s1 (fun S' A' H' sm tr => ⟨fun i d e => ?_, fun i hi => ?_⟩) hq⟩
  · unfold strD at e
    rw [List.getElem?_map] at e
    cases z : y.cps.toList[i]? with
    | none => rw [z] at e; cases e
    | some c =>
      rw [z] at e
      cases e
      have z2 : y.cps[i]? = some c := by rw [← Array.getElem?_toList]; exact z
      refine ⟨(Array.getElem?_eq_some_iff.mp z2).1, fun x H2 yl => ?_⟩
      obtain ⟨rfl, c', e1, rfl⟩ := yl
      rw [z2] at e1
      cases e1
      exact ⟨Same.refl _, rfl⟩
  · show y.cps.size ≤ i
    unfold strD at hi
    simpa using hi
end

/-! ### comprehensions -/
def wLcL (wg : WG) (wt : WT) (we : WE) (env : Env') : List D → Mem → List D → (List D → Mem → Prop) → Prop
  | [], M, acc, Q => Q acc M
  | d :: ds, M, acc, Q => ∃ N : Mem → List D → Prop, (∀ m a, N m a → wLcL wg wt we env ds m a Q) ∧ wg (.d d) env M fun env1 M1 => wt env1 M1 fun b M2 => if b = true then we env1 M2 fun y M3 => ∃ z, y = .d z ∧ N M3 (acc ++ [z]) else N M2 acc
def wipeE (env : Env') : List Nat → Env'
  | [] => env
  | v :: vs => (wipeE env vs).set v none
def wLc (wi : WI) (wg : WG) (wt : WT) (we : WE) (vs : List Nat) : WE := fun env M Q => wi env M fun ds M1 => ds.length ≤ sizeLine ∧ wLcL wg wt we (wipeE env vs) ds M1 [] fun acc M2 => Q (.d (.lst acc)) M2
def wYes : WT := fun _ M Q => Q true M
section
variable {X : Cx} {K : PySem.W.Frag}
theorem EnvOk.wipe {S A : List Addr} {H : Hp} {env : Env'} {σ : L2.St} (h : EnvOk J K S A H env σ) : ∀ vs : List Nat, EnvOk J K S A H (wipeE env vs) (L2.wipe σ vs)
  | [] => h
  | v :: vs => by
    have ih := EnvOk.wipe h vs
    refine ⟨ih.j, ?_, fun i r e => ?_⟩
    · unfold wipeE L2.wipe
      rw [List.length_set, List.length_set]; exact ih.len
    · unfold wipeE at e
      unfold L2.wipe
      by_cases hi : v = i
      · subst hi
        rw [List.getElem?_set] at e
        simp only [if_true] at e
        split at e <;> cases e
      · rw [List.getElem?_set_ne hi] at e
        obtain ⟨w, e1, e2⟩ := ih.at_ i r e
        exact ⟨w, by rw [List.getElem?_set_ne hi]; exact e1, e2⟩
theorem dn_lc {ti : TI} {g : TG} {tt : TT} {te : TE} {wi : WI} {wg : WG} {wt : WT} {we : WE} {vs ss : List Nat} (hi : DnI J K ti wi) (hg : DnG J K ss g wg) (ht : DnT J K tt wt) (he : Dn J K te we) (hs : ∀ i ∈ ss, i ∈ vs) : Dn J K (tLc ti g tt te vs) (wLc wi wg wt we vs) := by
  intro env M Q hw S A σ H R st en k
  refine hi env M _ hw S A σ H _ st en fun J H1 ds M1 A1 p1 s1 wk ⟨hz, hw1⟩ => ?_
  intro D0 hD
  have fr := s1.fresh hD
  have nS : D0 ∉ S := fun z => fr (List.mem_append_left _ z)
  have nA : D0 ∉ A1 := fun z => fr (List.mem_append_right _ z)
  have sub : ∀ (A : List Addr) (H : Hp), Same (view (D0 :: S) A H) (view S A H) := fun A H => off_less fun a ha => List.mem_cons_of_mem _ ha
  have v0 : Same (view S A1 H1) (view (D0 :: S) A1 (upd H1 D0 (.lst []))) := fun b x e => by
    obtain ⟨n, q⟩ := off_some e
    have hb : b ≠ D0 := ne_of_none q hD
    refine off_of (fun z => ?_) (by rw [upd_ne hb]; exact q)
    rcases List.mem_cons.mp z with z | z
    · exact hb z
    · exact n z
  have st0 : Sto K (D0 :: S) A1 (upd H1 D0 (.lst [])) M1 := by
    refine ⟨s1.len, s1.nd, fun a ha z => ?_, fun a ha => ?_, fun i mo a h1 h2 => ?_⟩
    · rcases List.mem_cons.mp z with z | z
      · exact nA (z ▸ ha)
      · exact s1.dj a ha z
    · rcases List.mem_cons.mp ha with rfl | ha
      · exact ⟨_, upd_same⟩
      · obtain ⟨o, e⟩ := s1.trk a ha
        exact ⟨o, by rw [upd_ne (ne_of_none e hD)]; exact e⟩
    · refine (s1.mem i mo a h1 h2).to (upd_ne (fun (z : a = D0) => nA (by rw [← z]; exact List.mem_of_getElem? h2))) v0
  refine ⟨fun i m H2 => m = ds.length - i ∧ i ≤ ds.length ∧ ∃ M2 A2 acc xs, A1 <+: A2 ∧ Same (view S A1 H1) (view (D0 :: S) A2 H2) ∧ (∀ a ∈ S, H2 a = H1 a) ∧ Sto K (D0 :: S) A2 H2 M2 ∧ H2 D0 = some (.lst xs) ∧ Reps K (view (D0 :: S) A2 H2) acc xs ∧ acc.length ≤ i ∧
      wLcL wg wt we (wipeE env vs) (ds.drop i) M2 acc (fun acc M2 => Q (.d (.lst acc)) M2), ⟨ds.length, by simp, Nat.zero_le _, M1, A1, [], [], List.prefix_refl _, v0, fun a ha => upd_ne (fun (z : a = D0) => nS (by rw [← z]; exact ha)), st0, upd_same, rfl, by simp, by simpa using hw1⟩, ?_⟩
  rintro i m H2 ⟨rfl, hil, M2, A2, acc, xs, pre, vw, hid, st2, hD2, rp, hal, hw2⟩
  obtain ⟨wk1, wk2⟩ := wk (D0 :: S) A2 H2 vw st2.trk'
  by_cases hlt : i < ds.length
  · have hd : ds[i]? = some ds[i] := List.getElem?_eq_getElem hlt
    obtain ⟨go, yl⟩ := wk1 i _ hd
    refine .inr ⟨go, fun H' => i + 1 ≤ ds.length ∧ ∃ M2 A2 acc xs, A1 <+: A2 ∧ Same (view S A1 H1) (view (D0 :: S) A2 H') ∧ (∀ a ∈ S, H' a = H1 a) ∧ Sto K (D0 :: S) A2 H' M2 ∧ H' D0 = some (.lst xs) ∧ Reps K (view (D0 :: S) A2 H') acc xs ∧ acc.length ≤ i + 1 ∧
      wLcL wg wt we (wipeE env vs) (ds.drop (i + 1)) M2 acc (fun acc M2 => Q (.d (.lst acc)) M2), fun H' q => ⟨ds.length - (i + 1), by omega, rfl, q⟩, fun x H3 yd => ?_⟩
    obtain ⟨sm, rx⟩ := yl x H3 yd
    have st3 := st2.grow sm
    have p3 := st2.post sm
    rw [List.drop_eq_getElem_cons hlt] at hw2
    obtain ⟨N, hN, hw2⟩ := hw2
    have en3 : EnvOk _ K (D0 :: S) A2 H3 (wipeE env vs) (wipe σ vs) := ((en.mono p1).wipe vs).to pre (vw.trans p3.view) (fun a ha => List.mem_cons_of_mem _ ha) (fun a ha => (p3.hid a (List.mem_cons_of_mem _ ha)).trans (hid a ha))
    refine hg _ _ _ _ hw2 (D0 :: S) A2 (wipe σ vs) H3 x _ st3 en3 rx fun σ4 H4 env4 M4 A4 p4 s4 e4 wp hw4 => ?_
    have wp' : wipe σ4 vs = wipe σ vs := by
      rw [wp vs hs]
      have : ∀ ws us : List Nat, (∀ i ∈ us, i ∈ ws) → wipe (wipe σ us) ws = wipe σ ws := by
        intro ws us
        induction us with
        | nil => intro _; rfl
        | cons u us ih =>
          intro hu
          show wipe ((wipe σ us).set u none) ws = _
          rw [wipe_set (hu u List.mem_cons_self)]
          exact ih fun i hi => hu i (List.mem_cons_of_mem _ hi)
      exact this vs vs fun i hi => hi
    refine ⟨wp', ?_⟩
    refine ht _ _ _ hw4 (D0 :: S) A4 σ4 H4 _ s4 e4 fun b H5 M5 A5 p5 s5 hw5 => ?_
    have pp := (p3.trans p4).trans p5
    have hid5 : ∀ a ∈ S, H5 a = H1 a := fun a ha => (pp.hid a (List.mem_cons_of_mem _ ha)).trans (hid a ha)
    have hD5 : H5 D0 = some (.lst xs) := (pp.hid D0 List.mem_cons_self).trans hD2
    cases b with
    | false =>
      exact ⟨hlt, M5, A5, acc, xs, pre.trans pp.pre, vw.trans pp.view, hid5, s5, hD5, Reps.mono pp.view _ _ rp, by omega, hN _ _ hw5⟩
    | true =>
      refine he _ _ _ hw5 (D0 :: S) A5 σ4 H5 _ s5 (e4.mono p5) fun y H6 ry M6 A6 p6 s6 q6 ⟨z, ez, hw6⟩ => ?_
      subst ez
      have pp6 := pp.trans p6
      have hD6 : H6 D0 = some (.lst xs) := (p6.hid D0 List.mem_cons_self).trans hD5
      have rp6 : Reps K (view (D0 :: S) A6 H6) acc xs := Reps.mono pp6.view _ _ rp
      refine ⟨xs, hD6, by rw [rp6.len]; omega, hlt, ?_⟩
      have vset : view (D0 :: S) A6 (upd H6 D0 (.lst (xs ++ [y]))) = view (D0 :: S) A6 H6 := by
        funext b
        unfold view off
        by_cases e : b ∈ D0 :: S ++ A6
        · rw [if_pos e, if_pos e]
        · rw [if_neg e, if_neg e, upd_ne (fun z => e (by rw [z]; exact List.mem_cons_self))]
      have nA6 : D0 ∉ A6 := fun z => s6.dj D0 z List.mem_cons_self
      refine ⟨M6, A6, acc ++ [z], xs ++ [y], pre.trans pp6.pre, by rw [vset]; exact vw.trans pp6.view, fun a ha => ?_, ?_, upd_same, ?_, by rw [List.length_append]; simp; omega, hN _ _ hw6⟩
      · rw [upd_ne (fun (z : a = D0) => nS (by rw [← z]; exact ha))]
        exact (p6.hid a (List.mem_cons_of_mem _ ha)).trans (hid5 a ha)
      · refine ⟨s6.len, s6.nd, s6.dj, fun a ha => ?_, fun j mo a h1 h2 => ?_⟩
        · by_cases e : a = D0
          · subst e; exact ⟨_, upd_same⟩
          · rw [upd_ne e]; exact s6.trk a ha
        · exact (s6.mem j mo a h1 h2).to (upd_ne (fun (z : a = D0) => nA6 (by rw [← z]; exact List.mem_of_getElem? h2))) (by rw [vset]; exact Same.refl _)
      · rw [vset]
        exact Reps.app rp6 (Reps.one q6)
  · have e : i = ds.length := by omega
    subst e
    refine .inl ⟨wk2 _ (Nat.le_refl _), ?_⟩
    rw [List.drop_length] at hw2
    have nA2 : D0 ∉ A2 := fun z => st2.dj D0 z List.mem_cons_self
    have sb := sub A2 H2
    refine k (.ref D0) H2 (.d (.lst acc)) M2 A2 (p1.trans ⟨pre, vw.trans sb, hid⟩) ⟨st2.len, st2.nd, fun a ha z => st2.dj a ha (List.mem_cons_of_mem _ z), fun a ha => st2.trk a (List.mem_cons_of_mem _ ha), fun j mo a h1 h2 => (st2.mem j mo a h1 h2).to rfl sb⟩ ?_ hw2
    exact ⟨D0, xs, rfl, .inl (.inl (off_of (fun z => (List.mem_append.mp z).elim nS nA2) hD2)), Reps.mono sb _ _ rp⟩
end
end Dw
set_option Elab.async false
set_option linter.all false
set_option maxRecDepth 100000
set_option maxHeartbeats 4000000
/-! Dw7: statements and loops. -/
namespace Dw
open PySem PySem.Spec PyProof.Rows L2
structure EndsD where
  nx : Env' → Mem → Prop
  rt : Rv → Mem → Prop
  bk : Env' → Mem → Prop
  ct : Env' → Mem → Prop
abbrev WS := EndsD → Env' → Mem → Prop
/-- behind a statement: the view has grown, the hidden stays, the first P of what may change are the same -/
structure PostS (S P A : List Addr) (H : Hp) (A' : List Addr) (H' : Hp) : Prop where
  pre : P <+: A'
  view : Same (view S A H) (view S A' H')
  hid : ∀ a ∈ S, H' a = H a
structure EndsOk (J : Bs) (K : PySem.W.Frag) (S P A : List Addr) (H : Hp) (E : EndsD) (D : Ends) : Prop where
  nx : ∀ (σ' : L2.St) (H' : Hp) (env' : Env') (M' : Mem) (A' : List Addr), PostS S P A H A' H' → Sto K S A' H' M' → EnvOk J K S A' H' env' σ' → E.nx env' M' → D.nx σ' H'
  rt : ∀ (v : V) (H' : Hp) (r : Rv) (M' : Mem) (A' : List Addr), PostS S P A H A' H' → Sto K S A' H' M' → RepV K S A' H' r v → E.rt r M' → D.rt v H'
  bk : ∀ (σ' : L2.St) (H' : Hp) (env' : Env') (M' : Mem) (A' : List Addr), PostS S P A H A' H' → Sto K S A' H' M' → EnvOk J K S A' H' env' σ' → E.bk env' M' → D.bk σ' H'
  ct : ∀ (σ' : L2.St) (H' : Hp) (env' : Env') (M' : Mem) (A' : List Addr), PostS S P A H A' H' → Sto K S A' H' M' → EnvOk J K S A' H' env' σ' → E.ct env' M' → D.ct σ' H'
def DnS (J : Bs) (K : PySem.W.Frag) (n0 : Nat) (ts : TS) (ws : WS) : Prop := ∀ E env M, ws E env M → ∀ (S P A : List Addr) (σ : L2.St) (H : Hp) (D : Ends), P.length = n0 → P <+: A → Sto K S A H M → EnvOk J K S A H env σ → EndsOk J K S P A H E D → ts D σ H
def QS (J : Bs) (X : Cx) (n0 : Nat) (st : Stmt) (ws : WS) : Prop := ∃ ts, PS X st ts ∧ DnS J X.K n0 ts ws
def QSs (J : Bs) (X : Cx) (n0 : Nat) (st : List Stmt) (ws : WS) : Prop := ∃ ts, PSs X st ts ∧ DnS J X.K n0 ts ws
section
variable {K : PySem.W.Frag} {S P A A' A2 : List Addr} {H H' H2 : Hp} {E : EndsD} {D : Ends}
theorem Post.s (h : Post S A H A' H') (p : P <+: A) : PostS S P A H A' H' := ⟨p.trans h.pre, h.view, h.hid⟩
theorem PostS.trans (a : PostS S P A H A' H') (b : PostS S P A' H' A2 H2) : PostS S P A H A2 H2 := ⟨b.pre, a.view.trans b.view, fun x hx => (b.hid x hx).trans (a.hid x hx)⟩
theorem EndsOk.on (h : EndsOk J K S P A H E D) (p : PostS S P A H A' H') : EndsOk J K S P A' H' E D :=
  ⟨fun σ' H' env' M' A' q => h.nx σ' H' env' M' A' (p.trans q), fun v H' r M' A' q => h.rt v H' r M' A' (p.trans q), fun σ' H' env' M' A' q => h.bk σ' H' env' M' A' (p.trans q), fun σ' H' env' M' A' q => h.ct σ' H' env' M' A' (p.trans q)⟩
end
section
variable {X : Cx} {K : PySem.W.Frag} {n0 : Nat} {st : Stmt} {rest body : List Stmt} {e a b c : Expr} {we wa wb : WE} {wt : WT} {ws w1 w2 : WS} {wai : WA} {pos : Pos}
def sNil : WS := fun E env M => E.nx env M
def sSeq (a b : WS) : WS := fun E env M => a { E with nx := b E } env M
theorem qss_nil : QSs J X n0 [] sNil := ⟨_, pss_nil, fun E env M hw S P A σ H D hn hp st en eo => eo.nx σ H env M A ⟨hp, Same.refl _, fun _ _ => rfl⟩ st en hw⟩
theorem dns_seq {t u : TS} (h : DnS J K n0 t w1) (g : DnS J K n0 u w2) : DnS J K n0 (tSeq t u) (sSeq w1 w2) := by
  intro E env M hw S P A σ H D hn hp st en eo
  refine h _ env M hw S P A σ H _ hn hp st en ⟨fun σ' H' env' M' A' p s e q => ?_, eo.rt, eo.bk, eo.ct⟩
  exact g E env' M' q S P A' σ' H' D hn p.pre s e (eo.on p)
theorem qss_cons (h : QS J X n0 st w1) (g : QSs J X n0 rest w2) : QSs J X n0 (st :: rest) (sSeq w1 w2) := by
  obtain ⟨t, p, d⟩ := h
  obtain ⟨u, q, f⟩ := g
  exact ⟨_, pss_cons p q, dns_seq d f⟩
theorem qss_one (h : QS J X n0 st ws) : QSs J X n0 [st] ws := by
  obtain ⟨t, p, d⟩ := h
  exact ⟨_, pss_one p, d⟩
theorem qs_pass : QS J X n0 (.Pass pos) sNil := ⟨_, ps_pass, fun E env M hw S P A σ H D hn hp st en eo => eo.nx σ H env M A ⟨hp, Same.refl _, fun _ _ => rfl⟩ st en hw⟩
def sBreak : WS := fun E env M => E.bk env M
def sCont : WS := fun E env M => E.ct env M
theorem qs_break : QS J X n0 (.Break pos) sBreak := ⟨_, ps_break, fun E env M hw S P A σ H D hn hp st en eo => eo.bk σ H env M A ⟨hp, Same.refl _, fun _ _ => rfl⟩ st en hw⟩
theorem qs_cont : QS J X n0 (.Continue pos) sCont := ⟨_, ps_continue, fun E env M hw S P A σ H D hn hp st en eo => eo.ct σ H env M A ⟨hp, Same.refl _, fun _ _ => rfl⟩ st en hw⟩
def sRet (we : WE) : WS := fun E env M => we env M E.rt
theorem qs_ret (h : QE J X e we) : QS J X n0 (.Return (some e) pos) (sRet we) := by
  obtain ⟨te, pe, de⟩ := h
  refine ⟨_, ps_ret pe, fun E env M hw S P A σ H D hn hp st en eo => ?_⟩
  exact de env M _ hw S A σ H _ st en fun v H1 r M1 A1 p1 s1 q1 hq => eo.rt v H1 r M1 A1 (p1.s hp) s1 q1 hq
def sRetN : WS := fun E _ M => E.rt (.d .non) M
theorem qs_retN : QS J X n0 (.Return none pos) sRetN := ⟨_, ps_retN, fun E env M hw S P A σ H D hn hp st en eo => eo.rt .non H (.d .non) M A ⟨hp, Same.refl _, fun _ _ => rfl⟩ st (show V.non = V.non from rfl) hw⟩
def sExpr (we : WE) : WS := fun E env M => we env M fun _ M1 => E.nx env M1
theorem qs_expr (h : QE J X e we) (hs : swapsWith e none pos.line X.env = pure false := by rfl) : QS J X n0 (.Expr e pos) (sExpr we) := by
  obtain ⟨te, pe, de⟩ := h
  refine ⟨_, ps_expr pe hs, fun E env M hw S P A σ H D hn hp st en eo => ?_⟩
  exact de env M _ hw S A σ H _ st en fun v H1 r M1 A1 p1 s1 q1 hq => eo.nx σ H1 env M1 A1 (p1.s hp) s1 (en.mono p1) hq
def sIf (wt : WT) (a b : WS) : WS := fun E env M => wt env M fun c M1 => if c = true then a E env M1 else b E env M1
theorem qs_if {sa sb : List Stmt} (h : QT J X c wt) (ha : QSs J X n0 sa w1) (hb : QSs J X n0 sb w2) : QS J X n0 (.If c sa sb pos) (sIf wt w1 w2) := by
  obtain ⟨tt, pt, dt⟩ := h
  obtain ⟨ta, pa, da⟩ := ha
  obtain ⟨tb, pb, db⟩ := hb
  refine ⟨_, ps_if pt pa pb, fun E env M hw S P A σ H D hn hp st en eo => ?_⟩
  refine dt env M _ hw S A σ H _ st en fun c H1 M1 A1 p1 s1 hq => ?_
  have eo1 := eo.on (p1.s hp)
  cases c with
  | true => exact da E env M1 hq S P A1 σ H1 D hn (hp.trans p1.pre) s1 (en.mono p1) eo1
  | false => exact db E env M1 hq S P A1 σ H1 D hn (hp.trans p1.pre) s1 (en.mono p1) eo1
/-- x = e -/
def sSet (i : Nat) (we : WE) : WS := fun E env M => we env M fun r M1 => E.nx (env.set i (some r)) M1
theorem dns_set {i : Nat} {te : TE} (de : Dn J K te we) : DnS J K n0 (tAsg te (gName i)) (sSet i we) := by
  intro E env M hw S P A σ H D hn hp st en eo
  exact de env M _ hw S A σ H _ st en fun v H1 r M1 A1 p1 s1 q1 hq => eo.nx _ H1 _ M1 A1 (p1.s hp) s1 ((en.mono p1).set q1) hq
theorem qs_set {i : Nat} {x : Str} {pos' : Pos} (hN : X.N.Nodup) (hi : X.N[i]? = some x) (hx : Loc X.env.scope x) (h : QE J X e we) (hs : swapsWith e (some (.Name x pos')) pos.line X.env = pure false := by rfl) (hf : X.fn x = true ∨ X.env.scope.names.lookup x = some .local := by first | exact .inl rfl | exact .inr rfl | assumption) :
    QS J X n0 (.Assign [.Name x pos'] e pos) (sSet i we) := by
  obtain ⟨te, pe, de⟩ := h
  exact ⟨_, ps_set hN hi hx pe hs hf, dns_set de⟩
/-- target = e -/
def sAsg (we : WE) (wg : WG) : WS := fun E env M => we env M fun r M1 => wg r env M1 E.nx
theorem qs_asg {tg : Expr} {ss : List Nat} {wg : WG} (h : QE J X e we) (g : QG J X ss tg wg) (hs : swapsWithSole [tg] e pos.line X.env = pure false := by rfl) (hw : swappedStores [tg] e X.env = pure none := by rfl)
    (h1 : (assignEach [tg] X.env).map (·.2) = [assign tg X.env] := by rfl) : QS J X n0 (.Assign [tg] e pos) (sAsg we wg) := by
  obtain ⟨te, pe, de⟩ := h
  obtain ⟨tg', pg, dg⟩ := g
  refine ⟨_, ps_asg pe pg hs hw h1, fun E env M hw S P A σ H D hn hp st en eo => ?_⟩
  refine de env M _ hw S A σ H _ st en fun v H1 r M1 A1 p1 s1 q1 hq => ?_
  exact dg r env M1 _ hq S A1 σ H1 v _ s1 (en.mono p1) q1 fun σ2 H2 env2 M2 A2 p2 s2 e2 _ hq2 => eo.nx σ2 H2 env2 M2 A2 ((p1.trans p2).s hp) s2 e2 hq2
/-- a, b = e1, e2: local names -/
def sPar (i j : Nat) (ws : WA) : WS := fun E env M => ws env M fun rs M1 => ∃ r, rs.head? = some r ∧ ∃ s, rs.tail = [s] ∧ E.nx ((env.set i (some r)).set j (some s)) M1
theorem qs_par {i j : Nat} {x y : Str} {px py pt : Pos} {kt k2 : Nat} {pt2 : Pos} (hc : X.calm = true) (hN : X.N.Nodup) (hi : X.N[i]? = some x) (hj : X.N[j]? = some y) (hij : i ≠ j)
    (hx : X.env.scope.names.lookup x = some .local) (hy : X.env.scope.names.lookup y = some .local) (h : QA J X [a, b] wai)
    (hw : swappedStores [.Tuple [.Name x px, .Name y py] kt pt] (.Tuple [a, b] k2 pt2) X.env = pure (some [x, y]))
    (hs : swapsWithSole [.Tuple [.Name x px, .Name y py] kt pt] (.Tuple [a, b] k2 pt2) pos.line X.env = pure false := by rfl) :
    QS J X n0 (.Assign [.Tuple [.Name x px, .Name y py] kt pt] (.Tuple [a, b] k2 pt2) pos) (sPar i j wai) := by
  obtain ⟨ta, pa, da⟩ := h
  refine ⟨_, ps_par hc hN hi hj hij hx hy pa hw hs, fun E env M hw S P A σ H D hn hp st en eo => ?_⟩
  refine da env M _ hw S A σ H _ st en fun vs H1 rs M1 A1 p1 s1 q1 ⟨r, er, s, es', hq⟩ => ?_
  have e : rs = [r, s] := by rw [headTail er, es']
  subst e
  obtain ⟨v, us, rfl, q2, u, us2, rfl, q3, q4⟩ := q1
  cases q4
  exact ⟨v, u, rfl, eo.nx _ H1 _ M1 A1 (p1.s hp) s1 (((en.mono p1).set q2).set q3) hq⟩
def sPar3 (i j l : Nat) (ws : WA) : WS := fun E env M => ws env M fun rs M1 => ∃ r, rs.head? = some r ∧ ∃ s t, rs.tail = [s, t] ∧ E.nx (((env.set i (some r)).set j (some s)).set l (some t)) M1
theorem qs_par3 {i j l : Nat} {x y z : Str} {c : Expr} {px py pz pt : Pos} {kt k2 : Nat} {pt2 : Pos} (hc : X.calm = true) (hN : X.N.Nodup) (hi : X.N[i]? = some x) (hj : X.N[j]? = some y) (hl : X.N[l]? = some z) (hij : i ≠ j) (hil : i ≠ l) (hjl : j ≠ l)
    (hx : X.env.scope.names.lookup x = some .local) (hy : X.env.scope.names.lookup y = some .local) (hz : X.env.scope.names.lookup z = some .local) (h : QA J X [a, b, c] wai)
    (hw : swappedStores [.Tuple [.Name x px, .Name y py, .Name z pz] kt pt] (.Tuple [a, b, c] k2 pt2) X.env = pure (some [x, y, z]))
    (hs : swapsWithSole [.Tuple [.Name x px, .Name y py, .Name z pz] kt pt] (.Tuple [a, b, c] k2 pt2) pos.line X.env = pure false := by rfl) :
    QS J X n0 (.Assign [.Tuple [.Name x px, .Name y py, .Name z pz] kt pt] (.Tuple [a, b, c] k2 pt2) pos) (sPar3 i j l wai) := by
  obtain ⟨ta, pa, da⟩ := h
  refine ⟨_, ps_par3 hc hN hi hj hl hij hil hjl hx hy hz pa hw hs, fun E env M hw S P A σ H D hn hp st en eo => ?_⟩
  refine da env M _ hw S A σ H _ st en fun vs H1 rs M1 A1 p1 s1 q1 ⟨r, er, s, t, es', hq⟩ => ?_
  have e : rs = [r, s, t] := by rw [headTail er, es']
  subst e
  obtain ⟨v, us, rfl, q2, u, us2, rfl, q3, z, us3, rfl, q4, q5⟩ := q1
  cases q5
  exact ⟨v, u, z, rfl, eo.nx _ H1 _ M1 A1 (p1.s hp) s1 ((((en.mono p1).set q2).set q3).set q4) hq⟩
/-- xs[i] = e: the list that may change -/
def sSetIx (wo wi we : WE) : WS := fun E env M => we env M fun r M1 => wo env M1 fun o M2 => wi env M2 fun ix M3 => ∃ d, r = .d d ∧ ∃ k, o = .o k ∧ ∃ mo, M3[k]? = some mo ∧ ∃ ds, mo.ls = some ds ∧ ∃ i, ix = .d (.int i) ∧ ∃ j, ixN ds.length i = some j ∧ E.nx env (M3.set k (mo.put (ds.set j d)))
theorem qs_setIx {o i : Expr} {wo wi : WE} {pos' : Pos} (he : QE J X e we) (ho : QE J X o wo) (hi : QE J X i wi) (hsub : ∀ v, assign (.Subscript o i pos') X.env v = (do
      let ov ← holding [v] (eval o X.env)
      let iv ← holding [v, ov] (eval i X.env)
      standAt pos'
      holding [v, ov, iv] (setItem ov iv v)
      release [v, ov, iv] []) := by intro _; rfl) (hs : swapsWithSole [.Subscript o i pos'] e pos.line X.env = pure false := by rfl) (hw : swappedStores [.Subscript o i pos'] e X.env = pure none := by rfl)
    (h1 : (assignEach [.Subscript o i pos'] X.env).map (·.2) = [assign (.Subscript o i pos') X.env] := by rfl) : QS J X n0 (.Assign [.Subscript o i pos'] e pos) (sSetIx wo wi we) := by
  obtain ⟨te, pe, de⟩ := he
  obtain ⟨to, po, do_⟩ := ho
  obtain ⟨ti, pi, di⟩ := hi
  refine ⟨_, ps_asg pe (pg_sub po pi set_list hsub) hs hw h1, fun E env M hw S P A σ H D hn hp st en eo => ?_⟩
  refine de env M _ hw S A σ H _ st en fun v H1 r M1 A1 p1 s1 q1 hw1 => ?_
  refine do_ env M1 _ hw1 S A1 σ H1 _ s1 (en.mono p1) fun v2 H2 o2 M2 A2 p2 s2 q2 hw2 => ?_
  refine di env M2 _ hw2 S A2 σ H2 _ s2 (en.mono (p1.trans p2)) fun v3 H3 i3 M3 A3 p3 s3 q3 ⟨d, e1, k, e2, mo, e3, ds, e3', i, e4, j, e5, hq⟩ => ?_
  subst e1 e2 e4
  obtain ⟨a, ha, rfl⟩ := q2.mono p3
  cases q3
  obtain ⟨vs, g1, g2⟩ := (s3.mem k _ a e3 ha).lsD e3'
  have rd : Rep X.K (view S A3 H3) d v := (q1.mono (p2.trans p3))
  refine ⟨a, vs, i, j, rfl, rfl, g1, by rw [g2.len]; exact e5, ?_⟩
  obtain ⟨s4, p4⟩ := s3.set (o := .lst (vs.set j v)) (mo := mo.put (ds.set j d)) ha ((s3.mem k _ a e3 ha).put e3' upd_same (by rw [view_set (List.mem_of_getElem? ha)]; exact Reps.set rd j g2))
  have pp := ((p1.trans p2).trans p3).trans p4
  exact eo.nx σ _ env _ A3 (pp.s hp) s4 (en.mono pp) hq
end
end Dw
set_option Elab.async false
set_option linter.all false
set_option maxRecDepth 100000
set_option maxHeartbeats 4000000
/-! Dw8: loops, lists that change, defs and their calls. -/
namespace Dw
open PySem PySem.Spec PyProof.Rows L2
/-! ### less room -/
def cut1 (n : Nat) : Option Rv → Option Rv
  | some (.o k) => if k < n then some (.o k) else none
  | x => x
def cutE (n : Nat) (env : Env') : Env' := env.map (cut1 n)
theorem cut1_d {n : Nat} {x : D} : cut1 n (some (.d x)) = some (.d x) := rfl
theorem cut1_n {n : Nat} : cut1 n none = none := rfl
theorem cut1_o {n k : Nat} (h : k < n) : cut1 n (some (.o k)) = some (.o k) := if_pos h
theorem cut1_o0 {n : Nat} : cut1 (n + 1) (some (.o 0)) = some (.o 0) := cut1_o (by omega)
theorem cut1_o1 {n : Nat} : cut1 (n + 2) (some (.o 1)) = some (.o 1) := cut1_o (by omega)
section
variable {K : PySem.W.Frag} {S P A A' : List Addr} {H H' : Hp} {M M' : Mem} {env : Env'} {σ : L2.St}
theorem view_take (n : Nat) : Same (view S A H) (view S (A.take n) H) := off_less fun a ha => by
  rcases List.mem_append.mp ha with h | h
  · exact List.mem_append_left _ h
  · exact List.mem_append_right _ (List.mem_of_mem_take h)
theorem Sto.take (s : Sto K S A H M) (n : Nat) : Sto K S (A.take n) H (M.take n) := by
  refine ⟨by simp [s.len], s.nd.sublist (List.take_sublist _ _), fun a ha => s.dj a (List.mem_of_mem_take ha), s.trk, fun k mo a h1 h2 => ?_⟩
  rw [List.getElem?_take] at h1 h2
  split at h1
  · rename_i hk
    rw [if_pos hk] at h2
    exact (s.mem k mo a h1 h2).to rfl (view_take n)
  · cases h1
theorem EnvOk.cut (e : EnvOk J K S A H env σ) (n : Nat) : EnvOk J K S (A.take n) H (cutE n env) σ := by
  refine ⟨⟨e.j.sub, e.j.hid, e.j.view.trans (view_take n)⟩, by rw [e.len]; simp [cutE], fun i r h => ?_⟩
  unfold cutE at h
  rw [List.getElem?_map] at h
  cases z : env[i]? with
  | none => rw [z] at h; cases h
  | some y =>
    rw [z] at h
    cases y with
    | none => simp [cut1] at h
    | some r0 =>
      cases r0 with
      | d x =>
        simp [cut1] at h
        subst h
        obtain ⟨v, e1, e2⟩ := e.at_ i _ z
        exact ⟨v, e1, Rep.mono (view_take n) _ _ e2⟩
      | o k =>
        simp [cut1] at h
        obtain ⟨hk, rfl⟩ := h
        obtain ⟨v, e1, a, e2, e3⟩ := e.at_ i _ z
        exact ⟨v, e1, a, by rw [List.getElem?_take, if_pos hk]; exact e2, e3⟩
theorem prefix_take {n : Nat} (h : P <+: A) (hn : P.length ≤ n) : P <+: A.take n := by
  obtain ⟨t, rfl⟩ := h
  rw [List.take_append, List.take_of_length_le hn]
  exact List.prefix_append _ _
theorem PostS.take (p : PostS S P A H A' H') {n : Nat} (hn : P.length ≤ n) : PostS S P A H (A'.take n) H' := ⟨prefix_take p.pre hn, p.view.trans (view_take n), p.hid⟩
end
/-! ### for -/
def wForL (wg : WG) (wb : WS) (n : Nat) : List D → WS
  | [], E, env, M => E.nx env M
  | d :: ds, E, env, M => ∃ N : Env' → Mem → Prop, (∀ e m, N e m → wForL wg wb n ds E e m) ∧ wg (.d d) env M fun env1 M1 => wb ⟨fun e m => N (cutE n e) (m.take n), E.rt, E.nx, fun e m => N (cutE n e) (m.take n)⟩ env1 M1
def sFor (wi : WI) (wg : WG) (wb : WS) : WS := fun E env M => wi env M fun ds M1 => wForL wg wb M1.length ds E env M1
def wWhileN (wt : WT) (wb : WS) (n : Nat) : Nat → WS
  | 0, _, _, _ => False
  | k + 1, E, env, M => ∃ N : Env' → Mem → Prop, (∀ e m, N e m → wWhileN wt wb n k E e m) ∧ wt env M fun b M1 => if b = true then wb ⟨fun e m => N (cutE n e) (m.take n), E.rt, E.nx, fun e m => N (cutE n e) (m.take n)⟩ env M1 else E.nx env M1
def sWhile (wt : WT) (wb : WS) : WS := fun E env M => ∃ k, wWhileN wt wb M.length k E env M
section
variable {X : Cx} {K : PySem.W.Frag} {n0 : Nat} {st : Stmt} {rest body : List Stmt} {e a b c tg iter : Expr} {we wa wb : WE} {wt : WT} {ws w1 w2 : WS} {wai : WA} {pos : Pos} {wi : WI} {wg : WG} {ss : List Nat}
theorem dns_for {ti : TI} {g : TG} {tb : TS} (hi : DnI J K ti wi) (hg : DnG J K ss g wg) (hb : DnS J K n0 tb ws) : DnS J K n0 (tFor ti g tb) (sFor wi wg ws) := by
  intro E env M hw S P A σ H D hn hp st en eo
  refine hi env M _ hw S A σ H _ st en fun J H1 ds M1 A1 p1 s1 wk hw1 => ?_
  have hP : P.length ≤ M1.length := by rw [← s1.len]; exact (hp.trans p1.pre).length_le
  refine ⟨fun i m σ2 H2 => m = ds.length - i ∧ i ≤ ds.length ∧ ∃ env2 M2 A2, PostS S P A1 H1 A2 H2 ∧ Sto K S A2 H2 M2 ∧ EnvOk _ K S A2 H2 env2 σ2 ∧ wForL wg ws M1.length (ds.drop i) E env2 M2,
    ⟨ds.length, by simp, Nat.zero_le _, env, M1, A1, ⟨hp.trans p1.pre, Same.refl _, fun _ _ => rfl⟩, s1, en.mono p1, by simpa using hw1⟩, ?_⟩
  rintro i m σ2 H2 ⟨rfl, hil, env2, M2, A2, p2, s2, e2, hw2⟩
  obtain ⟨wk1, wk2⟩ := wk S A2 H2 p2.view s2.trk'
  have pp : PostS S P A H A2 H2 := (p1.s hp).trans p2
  by_cases hlt : i < ds.length
  · have hd : ds[i]? = some ds[i] := List.getElem?_eq_getElem hlt
    obtain ⟨go, yl⟩ := wk1 i _ hd
    refine .inr ⟨go, fun σ' H' => i + 1 ≤ ds.length ∧ ∃ env2 M2 A2, PostS S P A1 H1 A2 H' ∧ Sto K S A2 H' M2 ∧ EnvOk _ K S A2 H' env2 σ' ∧ wForL wg ws M1.length (ds.drop (i + 1)) E env2 M2, fun σ' H' q => ⟨ds.length - (i + 1), by omega, rfl, q⟩, fun x H3 yd => ?_⟩
    obtain ⟨sm, rx⟩ := yl x H3 yd
    have s3 := s2.grow sm
    have p3 := s2.post sm
    rw [List.drop_eq_getElem_cons hlt] at hw2
    obtain ⟨N, hN, hw2⟩ := hw2
    refine hg _ _ _ _ hw2 S A2 σ2 H3 x _ s3 (e2.mono p3) rx fun σ4 H4 env4 M4 A4 p4 s4 e4 _ hw4 => ?_
    have p24 : PostS S P A1 H1 A4 H4 := p2.trans ((p3.trans p4).s p2.pre)
    refine hb _ env4 M4 hw4 S P A4 σ4 H4 _ hn p24.pre s4 e4 ⟨fun σ5 H5 env5 M5 A5 p5 s5 e5 q5 => ?_, fun v H5 r M5 A5 p5 s5 e5 q5 => ?_, fun σ5 H5 env5 M5 A5 p5 s5 e5 q5 => ?_, fun σ5 H5 env5 M5 A5 p5 s5 e5 q5 => ?_⟩
    · exact ⟨hlt, _, _, A5.take M1.length, (p24.trans p5).take hP, s5.take _, e5.cut _, hN _ _ q5⟩
    · exact eo.rt v H5 r M5 A5 ((p1.s hp).trans (p24.trans p5)) s5 e5 q5
    · exact eo.nx σ5 H5 env5 M5 A5 ((p1.s hp).trans (p24.trans p5)) s5 e5 q5
    · exact ⟨hlt, _, _, A5.take M1.length, (p24.trans p5).take hP, s5.take _, e5.cut _, hN _ _ q5⟩
  · have e : i = ds.length := by omega
    subst e
    rw [List.drop_length] at hw2
    exact .inl ⟨wk2 _ (Nat.le_refl _), eo.nx σ2 H2 env2 M2 A2 pp s2 e2 hw2⟩
theorem qs_for (hp : PassesOwn (model X.prog X.w) X.A X.env X.xe) (hc : X.calm = true) (hi : QI J X tg iter wi) (hg : QG J X ss tg wg) (hb : QSs J X n0 body ws)
    (hs : ∀ x, foldedSetIterable iter X.env x = pure x := by intro _; rfl) : QS J X n0 (.For tg iter body [] pos) (sFor wi wg ws) := by
  obtain ⟨ti, pi, di⟩ := hi
  obtain ⟨g, pg, dg⟩ := hg
  obtain ⟨tb, pb, db⟩ := hb
  exact ⟨_, ps_for hp hc pi pg pb hs, dns_for di dg db⟩
theorem dns_while {tc : TT} {tb : TS} (ht : DnT J K tc wt) (hb : DnS J K n0 tb ws) : DnS J K n0 (tWhile tc tb) (sWhile wt ws) := by
  intro E env M hw S P A σ H D hn hp st en eo
  obtain ⟨k, hw⟩ := hw
  have hP : P.length ≤ M.length := by rw [← st.len]; exact hp.length_le
  refine ⟨fun m σ2 H2 => ∃ env2 M2 A2, PostS S P A H A2 H2 ∧ Sto K S A2 H2 M2 ∧ EnvOk _ K S A2 H2 env2 σ2 ∧ wWhileN wt ws M.length m E env2 M2, ⟨k, env, M, A, ⟨hp, Same.refl _, fun _ _ => rfl⟩, st, en, hw⟩, ?_⟩
  rintro m σ2 H2 ⟨env2, M2, A2, p2, s2, e2, hw2⟩
  cases m with
  | zero => exact hw2.elim
  | succ m =>
    obtain ⟨N, hN, hw2⟩ := hw2
    refine ht _ _ _ hw2 S A2 σ2 H2 _ s2 e2 fun b H3 M3 A3 p3 s3 hw3 => ?_
    have p23 : PostS S P A H A3 H3 := p2.trans (p3.s p2.pre)
    cases b with
    | false => exact eo.nx σ2 H3 env2 M3 A3 p23 s3 (e2.mono p3) hw3
    | true =>
      refine ⟨fun σ' H' => ∃ env2 M2 A2, PostS S P A H A2 H' ∧ Sto K S A2 H' M2 ∧ EnvOk _ K S A2 H' env2 σ' ∧ wWhileN wt ws M.length m E env2 M2, fun σ' H' q => ⟨m, Nat.lt_succ_self _, q⟩, ?_⟩
      refine hb _ env2 M3 hw3 S P A3 σ2 H3 _ hn p23.pre s3 (e2.mono p3) ⟨fun σ5 H5 env5 M5 A5 p5 s5 e5 q5 => ?_, fun v H5 r M5 A5 p5 s5 e5 q5 => ?_, fun σ5 H5 env5 M5 A5 p5 s5 e5 q5 => ?_, fun σ5 H5 env5 M5 A5 p5 s5 e5 q5 => ?_⟩
      · exact ⟨_, _, A5.take M.length, (p23.trans p5).take hP, s5.take _, e5.cut _, hN _ _ q5⟩
      · exact eo.rt v H5 r M5 A5 (p23.trans p5) s5 e5 q5
      · exact eo.nx σ5 H5 env5 M5 A5 (p23.trans p5) s5 e5 q5
      · exact ⟨_, _, A5.take M.length, (p23.trans p5).take hP, s5.take _, e5.cut _, hN _ _ q5⟩
theorem qs_while (hp : PassesOwn (model X.prog X.w) X.A X.env X.xe) (ht : QT J X c wt) (hb : QSs J X n0 body ws) : QS J X n0 (.While c body [] pos) (sWhile wt ws) := by
  obtain ⟨tt, pt, dt⟩ := ht
  obtain ⟨tb, pb, db⟩ := hb
  exact ⟨_, ps_while hp pt pb, dns_while dt db⟩

/-! ### a list that changes -/
def wApp (wo we : WE) : WE := fun env M Q => wo env M fun o M1 => ∃ k, o = .o k ∧ (∃ mo0, M1[k]? = some mo0 ∧ ∃ ds0, mo0.ls = some ds0) ∧ we env M1 fun r M2 => ∃ mo, M2[k]? = some mo ∧ ∃ ds, mo.ls = some ds ∧ ∃ d, r = .d d ∧ ds.length < sizeLine ∧ Q (.d .non) (M2.set k (mo.put (ds ++ [d])))
theorem qe_append {o : Expr} {wo : WE} {apos : Pos} (ho : QE J X o wo) (he : QE J X e we) (hbase : attributeBase o "append" X.env (eval o X.env) = eval o X.env := by rfl)
    (hfew : ((backTo pos (starEach [e] X.env)).all (fun x => !x.1) && (backToKw pos (keywordEach [] X.env)).all (fun x => x.1.isSome)
      && decide (([e] : List Expr).length + ([] : List Keyword).length + (if ([] : List Keyword).isEmpty then 0 else 1) < 30)) = true := by rfl)
    (hline : (apos.endLine == pos.line) = true := by rfl) (hs : starEach [e] X.env = (false, eval e X.env) :: starEach [] X.env := by rfl) (hplain : (backTo pos (starEach [] X.env)).any (·.1) = false := by rfl) :
    QE J X (.Call (.Attribute o "append" apos) [e] [] pos) (wApp wo we) := by
  obtain ⟨to, po, do_⟩ := ho
  obtain ⟨te, pe, de⟩ := he
  refine ⟨_, pe_bm PySem.F.plainAttrs_list PySem.F.slot_list_append PySem.F.type_list_append mt_append po (pa_cons pe pa_nil hs) hbase hfew hline hs hplain, fun env M Q hw S A σ H R st en k => ?_⟩
  refine do_ env M _ hw S A σ H _ st en fun v H1 o1 M1 A1 p1 s1 q1 ⟨i, e1, ⟨mo0, e2, ds0, e2'⟩, hw1⟩ => ?_
  subst e1
  obtain ⟨x, hx, rfl⟩ := q1
  obtain ⟨vs0, g0, _⟩ := (s1.mem i _ x e2 hx).lsD e2'
  refine ⟨.inl ⟨rfl, vs0, .inl (.inl g0)⟩, ?_⟩
  refine de env M1 _ hw1 S A1 σ H1 _ s1 (en.mono p1) fun u H2 r M2 A2 p2 s2 q2 ⟨mo, e3, ds, e3', d, e4, hz, hq⟩ => ?_
  subst e4
  have hx2 : A2[i]? = some x := by
    obtain ⟨t, ht⟩ := p2.pre
    rw [← ht, List.getElem?_append_left (List.getElem?_eq_some_iff.mp hx).1]
    exact hx
  obtain ⟨vs, g1, g2⟩ := (s2.mem i _ x e3 hx2).lsD e3'
  refine ⟨x, vs, u, rfl, rfl, g1, by rw [g2.len]; exact hz, ?_⟩
  obtain ⟨s4, p4⟩ := s2.set (o := .lst (vs ++ [u])) (mo := mo.put (ds ++ [d])) hx2 ((s2.mem i _ x e3 hx2).put e3' upd_same (by rw [view_set (List.mem_of_getElem? hx2)]; exact Reps.app g2 (Reps.one q2)))
  exact k .non _ (.d .non) _ A2 ((p1.trans p2).trans p4) s4 (show V.non = V.non from rfl) hq
/-- a list that changes no more -/
def frzR (k : Nat) (ds : List D) : Rv → Rv
  | .d x => .d x
  | .o j => if j = k then .d (.lst ds) else if k < j then .o (j - 1) else .o j
def sFrz (k : Nat) (ws : WS) : WS := fun E env M => ∃ mo, M[k]? = some mo ∧ ∃ ds, mo.ls = some ds ∧ ws E (env.map (Option.map (frzR k ds))) (M.eraseIdx k)
theorem qs_frz (k : Nat) (hk : n0 ≤ k) (h : QSs J X n0 rest ws) : QSs J X n0 rest (sFrz k ws) := by
  obtain ⟨ts, ps, dd⟩ := h
  refine ⟨ts, ps, fun E env M hw S P A σ H D hn hp st en eo => ?_⟩
  obtain ⟨mo, e, ds, e', hw⟩ := hw
  have hkA : k < A.length := by rw [st.len]; exact (List.getElem?_eq_some_iff.mp e).1
  have ea : A[k]? = some A[k] := List.getElem?_eq_getElem hkA
  obtain ⟨vs, g1, g2⟩ := (st.mem k _ _ e ea).lsD e'
  have vw : Same (view S A H) (view S (A.eraseIdx k) H) := off_less fun a ha => by
    rcases List.mem_append.mp ha with h | h
    · exact List.mem_append_left _ h
    · exact List.mem_append_right _ (List.mem_of_mem_eraseIdx h)
  have nk : A[k] ∉ S ++ A.eraseIdx k := fun z => by
    rcases List.mem_append.mp z with z | z
    · exact st.dj _ (List.getElem_mem _) z
    · obtain ⟨j, hj, ej⟩ := List.mem_eraseIdx_iff_getElem.mp z
      obtain ⟨hjk, ej⟩ := ej
      exact hjk ((List.getElem_inj st.nd).mp ej)
  have st' : Sto X.K S (A.eraseIdx k) H (M.eraseIdx k) := by
    refine ⟨by rw [List.length_eraseIdx, List.length_eraseIdx, st.len], st.nd.sublist (List.eraseIdx_sublist _ _), fun a ha => st.dj a (List.mem_of_mem_eraseIdx ha), st.trk, fun j mo a h1 h2 => ?_⟩
    rw [List.getElem?_eraseIdx] at h1 h2
    split at h1
    · rename_i hj
      rw [if_pos hj] at h2
      exact (st.mem _ mo a h1 h2).to rfl vw
    · rename_i hj
      rw [if_neg hj] at h2
      exact (st.mem _ mo a h1 h2).to rfl vw
  have pre : P <+: A.eraseIdx k := by
    obtain ⟨t, rfl⟩ := hp
    rw [List.eraseIdx_append_of_length_le (by omega)]
    exact List.prefix_append _ _
  have ps' : PostS S P A H (A.eraseIdx k) H := ⟨pre, vw, fun _ _ => rfl⟩
  refine dd E _ _ hw S P (A.eraseIdx k) σ H D hn pre st' ⟨⟨en.j.sub, en.j.hid, en.j.view.trans vw⟩, by rw [en.len]; simp, fun i r h => ?_⟩ (eo.on ps')
  rw [List.getElem?_map] at h
  cases z : env[i]? with
  | none => rw [z] at h; cases h
  | some y =>
    rw [z] at h
    cases y with
    | none => simp at h
    | some r0 =>
      simp at h
      subst h
      obtain ⟨v, e1, e2⟩ := en.at_ i _ z
      refine ⟨v, e1, ?_⟩
      cases r0 with
      | d x => exact Rep.mono vw _ _ e2
      | o j =>
        obtain ⟨x, hx, rfl⟩ := e2
        show RepV X.K S (A.eraseIdx k) H (if j = k then Rv.d (Dw.D.lst ds) else if k < j then Rv.o (j - 1) else Rv.o j) (V.ref x)
        by_cases h1 : j = k
        · rw [if_pos h1]
          subst h1
          rw [ea] at hx
          cases hx
          exact ⟨_, vs, rfl, .inl (.inl (off_of nk g1)), Reps.mono vw _ _ g2⟩
        · rw [if_neg h1]
          by_cases h2 : k < j
          · rw [if_pos h2]
            exact ⟨x, by rw [List.getElem?_eraseIdx, if_neg (by omega), Nat.sub_add_cancel (by omega)]; exact hx, rfl⟩
          · rw [if_neg h2]
            exact ⟨x, by rw [List.getElem?_eraseIdx, if_pos (by omega)]; exact hx, rfl⟩
end
end Dw
set_option Elab.async false
set_option linter.all false
set_option maxRecDepth 100000
set_option maxHeartbeats 4000000
/-! Dw9: defs and their calls. -/
namespace Dw
open PySem PySem.Spec PyProof.Rows L2
/-- what a def is worth: arguments, what it may change, what is wanted of the answer -/
abbrev Ct := List Rv → Mem → (Rv → Mem → Prop) → Prop
def spD (K : PySem.W.Frag) (φ : Ct) : Sp := fun vs H Q _ => ∃ S A M rs R, Sto K S A H M ∧ RepVs K S A H rs vs ∧ φ rs M R ∧ ∀ r M', R r M' → ∀ (v : V) (H' : Hp) (A' : List Addr), A <+: A' → Same (view S A H) (view S A' H') → (∀ a ∈ S, H' a = H a) → Sto K S A' H' M' → RepV K S A' H' r v → Q v H'
def shf (n : Nat) : Rv → Rv
  | .d x => .d x
  | .o k => .o (n + k)
/-- a call of data alone -/
def wCall (φ : Ct) (ws : WA) : WE := fun env M Q => ws env M fun rs M1 => ∃ ds, ds? rs = some ds ∧ φ (ds.map .d) [] fun r M' => Q (shf M1.length r) (M1 ++ M')
/-- a call with the j-th object that may change -/
def toC (j : Nat) : List Rv → Option (List Rv)
  | [] => some []
  | .d x :: rs => (toC j rs).map (.d x :: ·)
  | .o k :: rs => if k = j then (toC j rs).map (.o 0 :: ·) else none
def bck (j n : Nat) : Rv → Rv
  | .d x => .d x
  | .o 0 => .o j
  | .o (k + 1) => .o (n + k)
def wCallO (j : Nat) (φ : Ct) (ws : WA) : WE := fun env M Q => ws env M fun rs M1 => ∃ cs, toC j rs = some cs ∧ ∃ mo, M1[j]? = some mo ∧ φ cs [mo] fun r M' => ∃ m0, M'.head? = some m0 ∧ Q (bck j M1.length r) (M1.set j m0 ++ M'.tail)
section
variable {K : PySem.W.Frag} {S A : List Addr} {H : Hp} {M : Mem}
theorem reps_ds : ∀ {rs : List Rv} {ds : List D} {vs : List V}, RepVs K S A H rs vs → ds? rs = some ds → ∀ (S' A' : List Addr), Same (view S A H) (view S' A' H) → RepVs K S' A' H (ds.map .d) vs
  | [], _, _, r, e, _, _, _ => by cases r; cases e; rfl
  | .d x :: rs, _, _, ⟨v, us, e1, e2, e3⟩, e, S', A', sm => by
    subst e1
    unfold ds? at e
    cases z : ds? rs with
    | none => rw [z] at e; cases e
    | some es => rw [z] at e; cases e; exact ⟨v, us, rfl, Rep.mono sm _ _ e2, reps_ds e3 z S' A' sm⟩
  | .o _ :: _, _, _, _, e, _, _, _ => by cases e
theorem call_data {φ : Ct} {rs : List Rv} {ds : List D} {vs : List V} {Q : Qv} {R : VK} {E : XK} (st : Sto K S A H M) (rv : RepVs K S A H rs vs) (e : ds? rs = some ds) (h : φ (ds.map .d) [] fun r M' => Q (shf M.length r) (M ++ M'))
    (k : ∀ (v : V) (H' : Hp) (r : Rv) (M' : Mem) (A' : List Addr), Post S A H A' H' → Sto K S A' H' M' → RepV K S A' H' r v → Q r M' → R v H') : spD K φ vs H R E := by
  have sm : Same (view S A H) (view (S ++ A) [] H) := off_less fun a ha => by simpa using ha
  refine ⟨S ++ A, [], [], ds.map .d, _, ⟨rfl, by simp, by simp, st.trk', by simp⟩, reps_ds rv e _ _ sm, h, fun r M' hq v H' A' pre vw hid s' rv' => ?_⟩
  have hH : ∀ a ∈ S ++ A, H' a = H a := hid
  have v1 : Same (view S A H) (view S (A ++ A') H') := (sm.trans vw).trans (off_less fun a ha => by simpa [or_assoc] using ha)
  have v2 : Same (view (S ++ A) A' H') (view S (A ++ A') H') := off_less fun a ha => by simpa [or_assoc] using ha
  have p : Post S A H (A ++ A') H' := ⟨List.prefix_append _ _, v1, fun a ha => hH a (List.mem_append_left _ ha)⟩
  refine k v H' (shf M.length r) (M ++ M') (A ++ A') p ⟨by simp [st.len, s'.len], ?_, fun a ha => ?_, fun a ha => ?_, fun i mo a h1 h2 => ?_⟩ ?_ hq
  · rw [List.nodup_append]
    refine ⟨st.nd, s'.nd, fun a ha b hb e => s'.dj b hb (List.mem_append_right _ (e ▸ ha))⟩
  · rcases List.mem_append.mp ha with ha | ha
    · exact st.dj a ha
    · exact fun z => s'.dj a ha (List.mem_append_left _ z)
  · obtain ⟨o, eo⟩ := st.trk a ha
    exact ⟨o, by rw [hH a (List.mem_append_left _ ha)]; exact eo⟩
  · by_cases hi : i < A.length
    · rw [List.getElem?_append_left hi] at h2
      rw [List.getElem?_append_left (by rw [← st.len]; exact hi)] at h1
      exact (st.mem i mo a h1 h2).to (hH a (List.mem_append_right _ (List.mem_of_getElem? h2))) v1
    · rw [List.getElem?_append_right (by omega)] at h2
      rw [List.getElem?_append_right (by rw [← st.len]; omega), ← st.len] at h1
      exact (s'.mem _ mo a h1 h2).to rfl v2
  · cases r with
    | d x => exact Rep.mono v2 _ _ rv'
    | o i =>
      obtain ⟨a, ea, rfl⟩ := rv'
      exact ⟨a, by rw [List.getElem?_append_right (by rw [st.len]; omega), ← st.len, Nat.add_sub_cancel_left]; exact ea, rfl⟩
theorem reps_c {j : Nat} {a : Addr} (hj : A[j]? = some a) : ∀ {rs cs : List Rv} {vs : List V}, RepVs K S A H rs vs → toC j rs = some cs → ∀ (S' : List Addr), Same (view S A H) (view S' [a] H) → RepVs K S' [a] H cs vs
  | [], _, _, r, e, _, _ => by cases r; cases e; rfl
  | .d x :: rs, _, _, ⟨v, us, e1, e2, e3⟩, e, S', sm => by
    subst e1
    unfold toC at e
    cases z : toC j rs with
    | none => rw [z] at e; cases e
    | some es => rw [z] at e; cases e; exact ⟨v, us, rfl, Rep.mono sm _ _ e2, reps_c hj e3 z S' sm⟩
  | .o i :: rs, _, _, ⟨v, us, e1, e2, e3⟩, e, S', sm => by
    subst e1
    unfold toC at e
    by_cases hi : i = j
    · rw [if_pos hi] at e
      subst hi
      cases z : toC i rs with
      | none => rw [z] at e; cases e
      | some es =>
        rw [z] at e
        cases e
        obtain ⟨b, eb, rfl⟩ := e2
        rw [hj] at eb
        cases eb
        exact ⟨_, us, rfl, ⟨a, rfl, rfl⟩, reps_c hj e3 z S' sm⟩
    · rw [if_neg hi] at e; cases e
theorem call_obj {j : Nat} {mo : MO} {φ : Ct} {rs cs : List Rv} {vs : List V} {Q : Qv} {R : VK} {E : XK} (st : Sto K S A H M) (rv : RepVs K S A H rs vs) (e : toC j rs = some cs) (hm : M[j]? = some mo)
    (h : φ cs [mo] fun r M' => ∃ m0, M'.head? = some m0 ∧ Q (bck j M.length r) (M.set j m0 ++ M'.tail))
    (k : ∀ (v : V) (H' : Hp) (r : Rv) (M' : Mem) (A' : List Addr), Post S A H A' H' → Sto K S A' H' M' → RepV K S A' H' r v → Q r M' → R v H') : spD K φ vs H R E := by
  have hjl : j < A.length := by rw [st.len]; exact (List.getElem?_eq_some_iff.mp hm).1
  have hj : A[j]? = some A[j] := List.getElem?_eq_getElem hjl
  generalize A[j] = a at hj
  have ha : a ∈ A := List.mem_of_getElem? hj
  have mem1 : ∀ b, b ∈ A → b = a ∨ b ∈ A.eraseIdx j := fun b hb => by
    by_cases e : b = a
    · exact .inl e
    · right
      obtain ⟨i, hi, ei⟩ := List.getElem_of_mem hb
      refine List.mem_eraseIdx_iff_getElem.mpr ⟨i, hi, fun z => e ?_, ei⟩
      subst z
      rw [List.getElem?_eq_getElem hi] at hj
      rw [← ei]; exact Option.some.inj hj
  have nea : a ∉ A.eraseIdx j := fun z => by
    obtain ⟨i, hi, hij, ei⟩ := List.mem_eraseIdx_iff_getElem.mp z
    rw [List.getElem?_eq_getElem hjl] at hj
    exact hij ((List.getElem_inj st.nd).mp (ei.trans (Option.some.inj hj).symm))
  have eqm : ∀ b, b ∈ (S ++ A.eraseIdx j) ++ [a] ↔ b ∈ S ++ A := fun b => by
    simp only [List.mem_append,List.mem_singleton]
    constructor
    · rintro ((h | h) | h)
      · exact .inl h
      · exact .inr (List.mem_of_mem_eraseIdx h)
      · exact .inr (h ▸ ha)
    · rintro (h | h)
      · exact .inl (.inl h)
      · rcases mem1 b h with h | h
        · exact .inr h
        · exact .inl (.inr h)
  have sm : Same (view S A H) (view (S ++ A.eraseIdx j) [a] H) := off_less fun b hb => (eqm b).mp hb
  have trk' : ∀ b ∈ S ++ A.eraseIdx j, ∃ o, H b = some o := fun b hb => st.trk' b ((eqm b).mp (List.mem_append_left _ hb))
  refine ⟨S ++ A.eraseIdx j, [a], [mo], cs, _, ⟨rfl, by simp, fun b hb z => ?_, trk', fun i m b h1 h2 => ?_⟩, reps_c hj rv e _ sm, h, fun r M' hq v H' A' pre vw hid s' rv' => ?_⟩
  · have eb : b = a := by simpa using hb
    subst eb
    rcases List.mem_append.mp z with z | z
    · exact st.dj b ha z
    · exact nea z
  · cases i with
    | zero => simp at h1 h2; subst h1 h2; exact (st.mem j _ _ hm hj).to rfl sm
    | succ i => simp at h1
  obtain ⟨m0, em0, hq⟩ := hq
  obtain ⟨more, rfl⟩ : ∃ r, M' = m0 :: r := ⟨M'.tail, headTail em0⟩
  obtain ⟨A2, rfl⟩ : ∃ A2, A' = a :: A2 := by
    obtain ⟨t, rfl⟩ := pre
    exact ⟨t, rfl⟩
  have nd' := s'.nd
  rw [List.nodup_cons] at nd'
  have v2 : Same (view (S ++ A.eraseIdx j) (a :: A2) H') (view S (A ++ A2) H') := off_less fun b hb => by
    rw [← List.append_assoc] at hb
    rcases List.mem_append.mp hb with hb | hb
    · have := (eqm b).mpr hb
      rcases List.mem_append.mp this with h | h
      · exact List.mem_append_left _ h
      · exact List.mem_append_right _ (by simp at h; simp [h])
    · exact List.mem_append_right _ (List.mem_cons_of_mem _ hb)
  have v1 : Same (view S A H) (view S (A ++ A2) H') := (sm.trans vw).trans v2
  have hH : ∀ b, b ∈ S ∨ b ∈ A.eraseIdx j → H' b = H b := fun b hb => hid b (List.mem_append.mpr hb)
  have p : Post S A H (A ++ A2) H' := ⟨List.prefix_append _ _, v1, fun b hb => hH b (.inl hb)⟩
  have nA : ∀ b ∈ A2, b ∉ S ++ A := fun b hb z => by
    rcases List.mem_append.mp ((eqm b).mpr z) with z | z
    · exact s'.dj b (List.mem_cons_of_mem _ hb) z
    · have eb : b = a := by simpa using z
      subst eb
      exact nd'.1 hb
  have hl1 : M.length = A.length := st.len.symm
  have hl2 : A2.length = more.length := by have := s'.len; simpa using this
  refine k v H' (bck j M.length r) (M.set j m0 ++ more) (A ++ A2) p ⟨by simp [hl1, hl2], ?_, fun b hb => ?_, fun b hb => ?_, fun i m b h1 h2 => ?_⟩ ?_ hq
  · rw [List.nodup_append]
    exact ⟨st.nd, nd'.2, fun b hb c hc e => nA c hc (List.mem_append_right _ (e ▸ hb))⟩
  · rcases List.mem_append.mp hb with hb | hb
    · exact st.dj b hb
    · exact fun z => nA b hb (List.mem_append_left _ z)
  · obtain ⟨o, eo⟩ := st.trk b hb
    exact ⟨o, by rw [hH b (.inl hb)]; exact eo⟩
  · by_cases hi : i < A.length
    · rw [List.getElem?_append_left hi] at h2
      rw [List.getElem?_append_left (by simp [hl1]; exact hi)] at h1
      by_cases hij : i = j
      · subst hij
        rw [hj] at h2
        cases h2
        rw [List.getElem?_set_self (by rw [hl1]; exact hi)] at h1
        cases h1
        exact (s'.mem 0 _ a rfl rfl).to rfl v2
      · rw [List.getElem?_set_ne (Ne.symm hij)] at h1
        have hb : b ∈ A.eraseIdx j := List.mem_eraseIdx_iff_getElem.mpr ⟨i, hi, hij, by rw [List.getElem?_eq_getElem hi] at h2; exact Option.some.inj h2⟩
        exact (st.mem i m b h1 h2).to (hH b (.inr hb)) v1
    · rw [List.getElem?_append_right (by omega)] at h2
      rw [List.getElem?_append_right (by simp [hl1]; omega)] at h1
      simp only [List.length_set,hl1] at h1
      exact (s'.mem (i - A.length + 1) m b (by simpa using h1) (by simpa using h2)).to rfl v2
  · cases r with
    | d x => exact Rep.mono v2 _ _ rv'
    | o i =>
      obtain ⟨b, eb, rfl⟩ := rv'
      cases i with
      | zero =>
        have : a = b := by simpa using eb
        subst this
        exact ⟨a, by rw [List.getElem?_append_left hjl]; exact hj, rfl⟩
      | succ i => exact ⟨b, by rw [hl1, List.getElem?_append_right (by omega), Nat.add_sub_cancel_left]; simpa using eb, rfl⟩
end

section
variable {X : Cx} {k : Nat} {f : Addr} {fd : FuncData} {ps : List Str} {φ : Ct} {x : Str} {p pos : Pos} {e : Expr} {es : List Expr} {ws wk : WA} {kws : List Keyword}
theorem qe_call (F : FnOk X.prog X.w X.K X.mg X.base CX0 k f fd ps (spD X.K φ)) (hr : Room k X.A) (hg : Gl X x) (hm : X.mg x = some (.ref f)) (hk : PySem.W.keepIn X.K (.ref f) = true) (hb : Binds X.K fd ps [])
    (ha : QA J X (e :: es) ws) (hdb : (x == ("__debug__" : Str)) = false := by decide) (he : starEach (e :: es) X.env = (false, eval e X.env) :: starEach es X.env := by rfl) (hpl : (backTo pos (starEach es X.env)).any (·.1) = false := by rfl) :
    QE J X (.Call (.Name x p) (e :: es) [] pos) (wCall φ ws) := by
  obtain ⟨ta, pa, da⟩ := ha
  refine ⟨_, pe_call F hr hg hm hk hb .nil pass0 pa hdb he hpl, fun env M Q hw S A σ H R st en k => ?_⟩
  refine da env M _ hw S A σ H _ st en fun vs H1 rs M1 A1 p1 s1 q1 ⟨ds, e, h⟩ => ?_
  rw [List.append_nil]
  exact call_data s1 q1 e h fun v H' r M' A' p s q hq => k v H' r M' A' (p1.trans p) s q hq
theorem qe_callO (j : Nat) (F : FnOk X.prog X.w X.K X.mg X.base CX0 k f fd ps (spD X.K φ)) (hr : Room k X.A) (hg : Gl X x) (hm : X.mg x = some (.ref f)) (hk : PySem.W.keepIn X.K (.ref f) = true) (hb : Binds X.K fd ps [])
    (ha : QA J X (e :: es) ws) (hdb : (x == ("__debug__" : Str)) = false := by decide) (he : starEach (e :: es) X.env = (false, eval e X.env) :: starEach es X.env := by rfl) (hpl : (backTo pos (starEach es X.env)).any (·.1) = false := by rfl) :
    QE J X (.Call (.Name x p) (e :: es) [] pos) (wCallO j φ ws) := by
  obtain ⟨ta, pa, da⟩ := ha
  refine ⟨_, pe_call F hr hg hm hk hb .nil pass0 pa hdb he hpl, fun env M Q hw S A σ H R st en k => ?_⟩
  refine da env M _ hw S A σ H _ st en fun vs H1 rs M1 A1 p1 s1 q1 ⟨cs, e1, mo, e2, h⟩ => ?_
  rw [List.append_nil]
  exact call_obj s1 q1 e1 e2 h fun v H' r M' A' p s q hq => k v H' r M' A' (p1.trans p) s q hq
/-! ### keywords -/
def kg (n : Nat) (π : List Nat) {α : Type} (us ws : List α) : List α := if us.length = n ∧ ws.length = π.length then us ++ π.filterMap (ws[·]?) else []
theorem vals_pick {vs : List V} {us : List Value} (r : Vals vs us) : ∀ π : List Nat, Vals (π.filterMap (vs[·]?)) (π.filterMap (us[·]?))
  | [] => .nil
  | i :: π => by
    cases z : vs[i]? with
    | none => rw [List.filterMap_cons_none z, List.filterMap_cons_none (r.none_of z)]; exact vals_pick r π
    | some v =>
      obtain ⟨u, e, q⟩ := r.get z
      rw [List.filterMap_cons_some z, List.filterMap_cons_some e]
      exact .cons q (vals_pick r π)
theorem kb {K : PySem.W.Frag} {x qual : Str} {params : Arguments} {body : List Stmt} {scope : Scope} {f : Addr} {fd : FuncData} {ps ks : List Str} (F : FunD K x qual params body scope [] [] f fd) (n : Nat) (π : List Nat) (hp : ps.length ≠ 0)
    (h : ∀ (kV doc pm : Value) (an : Option Addr) (cdv ct : Value) (us ws : List Value), us.length = n → ws.length = π.length → bindArgs (PySem.W.fnOf x qual params body scope .none kV doc pm an cdv ct) ⟨us, ks.zip ws⟩ = pure (ps.zip (us ++ π.filterMap (ws[·]?)))) : KBinds K fd ps ks (kg n π) (kg n π) := by
  obtain ⟨oc, od, dV, kV, doc, pm, an, cdv, ct, osl, rfl, lk, hcd, hD, hK⟩ := F.ex
  rcases hD with ⟨_, rfl⟩ | ⟨e, _⟩
  · refine ⟨fun s us ws _ hl => ?_, fun {vs us zs ws} r s => ?_⟩
    · unfold kg at hl ⊢
      by_cases q : us.length = n ∧ ws.length = π.length
      · rw [if_pos q]
        exact .of_eq (h kV doc pm an cdv ct us ws q.1 q.2)
      · rw [if_neg q] at hl
        exact absurd hl.symm hp
    · unfold kg
      rw [r.length, s.length]
      by_cases q : us.length = n ∧ ws.length = π.length
      · rw [if_pos q, if_pos q]
        exact r.append (vals_pick s π)
      · rw [if_neg q, if_neg q]; exact .nil
  · exact absurd rfl e
def QK (J : Bs) (X : Cx) (kws : List Keyword) (wa : WA) : Prop := ∃ ta, PK X kws ta ∧ DnA J X.K ta wa
theorem qk_nil : QK J X [] wNil := ⟨_, pk_nil, fun env M Q hw S A σ H R st en k => k [] H [] M A Post.refl st rfl hw⟩
theorem qk_cons {nm : Option Str} {kpos : Pos} {we : WE} (h : QE J X e we) (g : QK J X kws ws) : QK J X (⟨nm, e, kpos⟩ :: kws) (wCons we ws) := by
  obtain ⟨te, pe, de⟩ := h
  obtain ⟨ta, pa, da⟩ := g
  refine ⟨_, pk_cons pe pa, fun env M Q hw S A σ H R st en k => ?_⟩
  refine de env M _ hw S A σ H _ st en fun v H1 x M1 A1 p1 s1 q1 hw1 => ?_
  exact da env M1 _ hw1 S A1 σ H1 _ s1 (en.mono p1) fun vs H2 rs M2 A2 p2 s2 q2 hq => k (v :: vs) H2 (x :: rs) M2 A2 (p1.trans p2) s2 ⟨v, vs, rfl, q1.mono p2, q2⟩ hq
/-- f(k = v, ..) -/
theorem pe_callK0 {sp : Sp} {E : XK} {CX : CXT} {ks : List Str} {g : List Value → List Value → List Value} {gV : List V → List V → List V} {tk : TA} (F : FnOk X.prog X.w X.K X.mg X.base CX k f fd ps sp) (hr : Room k X.A) (hg : Gl X x) (hm : X.mg x = some (.ref f)) (hk : PySem.W.keepIn X.K (.ref f) = true) (hb : KBinds X.K fd ps ks g gV) (hx : Passes CX X E)
    (hkw : PK X kws tk) (hall : (backToKw pos (keywordEach kws X.env)).all (·.1.isSome) = true := by rfl) (hks : (backToKw pos (keywordEach kws X.env)).filterMap (·.1) = ks := by rfl)
    (hdb : (x == ("__debug__" : Str)) = false := by decide)
    (hpl : ((backTo pos (starEach [] X.env)).any (·.1) || (backToKw pos (keywordEach kws X.env)).any (·.1.isNone)) = false := by rfl) :
    PE X (.Call (.Name x p) [] kws pos) (tCallK sp gV E tNil tk) := by
  refine ⟨fun pins s σ H Q I h => ?_⟩
  refine wpAny_Call_Name_kw (ld_glob I hg hm ?_ hdb)
  refine PySem.W.callWith_KW0 (h₀ := X.base) I.ok.mod.kin hk hall (thn (hkw.run pos pins s σ H _ I h) fun ws s2 ⟨zs, H2, I2, rz, q2⟩ => ⟨I2.kIn, ?_⟩) hpl
  rw [hks]
  exact run_fnk F hr hb hx I2 .nil rz q2
def wKw (n : Nat) (π : List Nat) (ws wk : WA) : WA := fun env M Q => ws env M fun rs M1 => wk env M1 fun zs M2 => Q (kg n π rs zs) M2
theorem RepVs.get {K : PySem.W.Frag} {S A : List Addr} {H : Hp} : ∀ {rs : List Rv} {vs : List V}, RepVs K S A H rs vs → ∀ (i : Nat), (rs[i]? = none ∧ vs[i]? = none) ∨ ∃ r v, rs[i]? = some r ∧ vs[i]? = some v ∧ RepV K S A H r v
  | [], _, r, i => by cases r; exact .inl ⟨by simp, by simp⟩
  | r :: rs, _, ⟨v, us, e1, e2, e3⟩, 0 => by subst e1; exact .inr ⟨r, v, rfl, rfl, e2⟩
  | r :: rs, _, ⟨v, us, e1, e2, e3⟩, i + 1 => by subst e1; simpa using RepVs.get e3 i
theorem RepVs.pick {K : PySem.W.Frag} {S A : List Addr} {H : Hp} {rs : List Rv} {vs : List V} (h : RepVs K S A H rs vs) : ∀ π : List Nat, RepVs K S A H (π.filterMap (rs[·]?)) (π.filterMap (vs[·]?))
  | [] => rfl
  | i :: π => by
    rcases h.get i with ⟨e1, e2⟩ | ⟨r, v, e1, e2, q⟩
    · rw [List.filterMap_cons_none e1, List.filterMap_cons_none e2]; exact RepVs.pick h π
    · rw [List.filterMap_cons_some e1, List.filterMap_cons_some e2]; exact ⟨v, _, rfl, q, RepVs.pick h π⟩
theorem RepVs.app {K : PySem.W.Frag} {S A : List Addr} {H : Hp} : ∀ {rs zs : List Rv} {vs us : List V}, RepVs K S A H rs vs → RepVs K S A H zs us → RepVs K S A H (rs ++ zs) (vs ++ us)
  | [], _, _, _, r, s => by cases r; exact s
  | r :: rs, _, _, _, ⟨v, ws, e1, e2, e3⟩, s => by subst e1; exact ⟨v, _, rfl, e2, RepVs.app e3 s⟩
theorem RepVs.kg {K : PySem.W.Frag} {S A : List Addr} {H : Hp} {n : Nat} {π : List Nat} {rs zs : List Rv} {vs us : List V} (h : RepVs K S A H rs vs) (g : RepVs K S A H zs us) : RepVs K S A H (Dw.kg n π rs zs) (Dw.kg n π vs us) := by
  unfold Dw.kg
  rw [h.len, g.len]
  by_cases q : rs.length = n ∧ zs.length = π.length
  · rw [if_pos q, if_pos q]; exact h.app (g.pick π)
  · rw [if_neg q, if_neg q]; rfl
theorem dn_callK {E : XK} {n : Nat} {π : List Nat} {t tk : TA} (ha : DnA J X.K t ws) (hk : DnA J X.K tk wk) : Dn J X.K (tCallK (spD X.K φ) (kg n π) E t tk) (wCall φ (wKw n π ws wk)) := by
  intro env M Q hw S A σ H R st en k
  refine ha env M _ hw S A σ H _ st en fun vs H1 rs M1 A1 p1 s1 q1 hw1 => ?_
  refine hk env M1 _ hw1 S A1 σ H1 _ s1 (en.mono p1) fun us H2 zs M2 A2 p2 s2 q2 ⟨ds, e, h⟩ => ?_
  have q3 : RepVs X.K S A2 H2 (kg n π rs zs) (kg n π vs us) := (q1.mono p2).kg q2
  exact call_data s2 q3 e h fun v H' r M' A' p s q hq => k v H' r M' A' ((p1.trans p2).trans p) s q hq
theorem qe_callK {n : Nat} {π : List Nat} {ks : List Str} (F : FnOk X.prog X.w X.K X.mg X.base CX0 k f fd ps (spD X.K φ)) (hr : Room k X.A) (hg : Gl X x) (hm : X.mg x = some (.ref f)) (hk : PySem.W.keepIn X.K (.ref f) = true) (hb : KBinds X.K fd ps ks (kg n π) (kg n π))
    (ha : QA J X (e :: es) ws) (hkw : QK J X kws wk) (hall : (backToKw pos (keywordEach kws X.env)).all (·.1.isSome) = true := by rfl) (hks : (backToKw pos (keywordEach kws X.env)).filterMap (·.1) = ks := by rfl)
    (hdb : (x == ("__debug__" : Str)) = false := by decide) (he : starEach (e :: es) X.env = (false, eval e X.env) :: starEach es X.env := by rfl)
    (hpl : ((backTo pos (starEach (e :: es) X.env)).any (·.1) || (backToKw pos (keywordEach kws X.env)).any (·.1.isNone)) = false := by rfl) :
    QE J X (.Call (.Name x p) (e :: es) kws pos) (wCall φ (wKw n π ws wk)) := by
  obtain ⟨ta, pa, da⟩ := ha
  obtain ⟨tk, pk, dk⟩ := hkw
  exact ⟨_, pe_callK F hr hg hm hk hb pass0 pa pk hall hks hdb he hpl, dn_callK da dk⟩
theorem qe_callK0 {n : Nat} {π : List Nat} {ks : List Str} (F : FnOk X.prog X.w X.K X.mg X.base CX0 k f fd ps (spD X.K φ)) (hr : Room k X.A) (hg : Gl X x) (hm : X.mg x = some (.ref f)) (hk : PySem.W.keepIn X.K (.ref f) = true) (hb : KBinds X.K fd ps ks (kg n π) (kg n π))
    (hkw : QK J X kws wk) (hall : (backToKw pos (keywordEach kws X.env)).all (·.1.isSome) = true := by rfl) (hks : (backToKw pos (keywordEach kws X.env)).filterMap (·.1) = ks := by rfl)
    (hdb : (x == ("__debug__" : Str)) = false := by decide)
    (hpl : ((backTo pos (starEach [] X.env)).any (·.1) || (backToKw pos (keywordEach kws X.env)).any (·.1.isNone)) = false := by rfl) :
    QE J X (.Call (.Name x p) [] kws pos) (wCall φ (wKw n π wNil wk)) := by
  obtain ⟨tk, pk, dk⟩ := hkw
  exact ⟨_, pe_callK0 F hr hg hm hk hb pass0 pk hall hks hdb hpl, dn_callK (fun env M Q hw S A σ H R st en k => k [] H [] M A Post.refl st rfl hw) dk⟩
end

/-! ### a def keeps its contract -/
def retR (n0 : Nat) (R : Rv → Mem → Prop) : Rv → Mem → Prop
  | .d x, M => R (.d x) (M.take n0)
  | .o k, M => if k < n0 then R (.o k) (M.take n0) else ∃ mo, M[k]? = some mo ∧ R (.o n0) (M.take n0 ++ [mo])
def endsOf (n0 : Nat) (R : Rv → Mem → Prop) : EndsD := ⟨fun _ M => retR n0 R (.d .non) M, retR n0 R, fun _ _ => False, fun _ _ => False⟩
def startE (N : List Str) (rs : List Rv) : Env' := rs.map some ++ List.replicate (N.length - rs.length) none
section
variable {K : PySem.W.Frag} {S A : List Addr} {H : Hp} {M : Mem}
/-- a run that lets no exception out asks nothing of its begin -/
def J0 : Bs := ⟨[], fun _ => none⟩
theorem j0_ok : JOk S A H J0 := by
  refine ⟨by simp [J0], by simp [J0], fun b x e => ?_⟩
  have := (off_some e).2
  cases this
theorem start_ok {N : List Str} {rs : List Rv} {vs : List V} (hj : JOk S A H J) (h : RepVs K S A H rs vs) : EnvOk J K S A H (startE N rs) (L2.start N vs) := by
  have hl := h.len
  refine ⟨hj, by simp [L2.start, startE, hl], fun i r e => ?_⟩
  unfold startE at e
  by_cases hi : i < rs.length
  · rw [List.getElem?_append_left (by simpa using hi), List.getElem?_map] at e
    rcases h.get i with ⟨e1, _⟩ | ⟨r', v, e1, e2, q⟩
    · rw [e1] at e; cases e
    · rw [e1] at e
      simp at e
      subst e
      refine ⟨v, ?_, q⟩
      unfold L2.start
      rw [List.getElem?_append_left (by simp [hl]; exact hi), List.getElem?_map, e2]
      rfl
  · rw [List.getElem?_append_right (by simpa using hi), List.getElem?_replicate] at e
    split at e <;> cases e
variable {P : Program} {w : World} {mg : Str → Option Value} {base : Heap} {x qual : Str} {params : Arguments} {body : List Stmt} {scope : Scope} {f : Addr} {fd : FuncData}
theorem ends_ok {n0 : Nat} {R : Rv → Mem → Prop} {Q : VK} (st : Sto K S A H M) (hn : A.length = n0)
    (kk : ∀ r M', R r M' → ∀ (v : V) (H' : Hp) (A' : List Addr), A <+: A' → Same (view S A H) (view S A' H') → (∀ a ∈ S, H' a = H a) → Sto K S A' H' M' → RepV K S A' H' r v → Q v H') :
    EndsOk J K S A A H (endsOf n0 R) { nx := fun _ H' => Q .non H', rt := Q } := by
  have fin : ∀ (v : V) (H' : Hp) (r : Rv) (M' : Mem) (A' : List Addr), PostS S A A H A' H' → Sto K S A' H' M' → RepV K S A' H' r v → retR n0 R r M' → Q v H' := by
    intro v H' r M' A' p s' rv' hq
    have tk : A'.take n0 = A := by
      obtain ⟨t, rfl⟩ := p.pre
      rw [← hn, List.take_left]
    cases r with
    | d y =>
      refine kk _ _ hq v H' A (List.prefix_refl _) ?_ p.hid ?_ ?_
      · exact p.view.trans (tk ▸ view_take n0)
      · rw [← tk]; exact s'.take n0
      · rw [← tk]; exact Rep.mono (view_take n0) _ _ rv'
    | o i =>
      obtain ⟨a, ea, rfl⟩ := rv'
      by_cases hi : i < n0
      · have hq : (if i < n0 then R (.o i) (M'.take n0) else ∃ mo, M'[i]? = some mo ∧ R (.o n0) (M'.take n0 ++ [mo])) := hq
        rw [if_pos hi] at hq
        refine kk _ _ hq _ H' A (List.prefix_refl _) ?_ p.hid ?_ ?_
        · exact p.view.trans (tk ▸ view_take n0)
        · rw [← tk]; exact s'.take n0
        · exact ⟨a, by rw [← tk, List.getElem?_take, if_pos hi]; exact ea, rfl⟩
      · have hq : (if i < n0 then R (.o i) (M'.take n0) else ∃ mo, M'[i]? = some mo ∧ R (.o n0) (M'.take n0 ++ [mo])) := hq
        rw [if_neg hi] at hq
        obtain ⟨mo, em, hq⟩ := hq
        have st1 := s'.take n0
        rw [tk] at st1
        have v3 : Same (view S A' H') (view S (A ++ [a]) H') := off_less fun b hb => by
          rcases List.mem_append.mp hb with h | h
          · exact List.mem_append_left _ h
          · rcases List.mem_append.mp h with h | h
            · obtain ⟨t, rfl⟩ := p.pre; exact List.mem_append_right _ (List.mem_append_left _ h)
            · have : b = a := by simpa using h
              exact List.mem_append_right _ (this ▸ List.mem_of_getElem? ea)
        have na : a ∉ A := fun z => by
          rw [← tk] at z
          obtain ⟨j, hj, ej⟩ := List.getElem_of_mem z
          rw [List.length_take] at hj
          rw [List.getElem_take] at ej
          obtain ⟨h3, e3⟩ := List.getElem?_eq_some_iff.mp ea
          have := (List.getElem_inj s'.nd).mp (ej.trans e3.symm)
          omega
        refine kk _ _ hq _ H' (A ++ [a]) (List.prefix_append _ _) (p.view.trans v3) p.hid ⟨by rw [List.length_append, List.length_append, st1.len]; rfl, ?_, fun b hb => ?_, s'.trk, fun j m b h1 h2 => ?_⟩ ⟨a, ?_, rfl⟩
        · rw [List.nodup_append]
          exact ⟨st.nd, by simp, fun b hb c hc e => na (by
            have h5 : c = a := by simpa using hc
            rw [← h5, ← e]; exact hb)⟩
        · rcases List.mem_append.mp hb with h | h
          · exact st.dj b h
          · have : b = a := by simpa using h
            exact this ▸ s'.dj a (List.mem_of_getElem? ea)
        · by_cases hj : j < A.length
          · rw [List.getElem?_append_left hj] at h2
            rw [List.getElem?_append_left (by rw [← st1.len]; exact hj)] at h1
            rw [List.getElem?_take] at h1
            split at h1
            · obtain ⟨t, ht⟩ := p.pre
              exact (s'.mem j m b h1 (by rw [← ht, List.getElem?_append_left hj]; exact h2)).to rfl v3
            · cases h1
          · rw [List.getElem?_append_right (by omega)] at h2
            rw [List.getElem?_append_right (by rw [← st1.len]; omega), ← st1.len] at h1
            have hj2 : j - A.length = 0 := by
              have := (List.getElem?_eq_some_iff.mp h2).1
              simp at this; omega
            rw [hj2] at h1 h2
            simp at h1 h2
            subst h1 h2
            exact (s'.mem i _ _ em ea).to rfl v3
        · rw [← hn, List.getElem?_append_right (Nat.le_refl _)]; simp
  exact ⟨fun σ' H' env' M' A' p s' _ q => fin .non H' (.d .non) M' A' p s' (show V.non = V.non from rfl) q, fin, fun _ _ _ _ _ _ _ _ q => q.elim, fun _ _ _ _ _ _ _ _ q => q.elim⟩
theorem fnD {N ps : List Str} {k n0 : Nat} {φ : Ct} (F : FunD K x qual params body scope [] [] f fd) (Sc : FnScope N ps scope) (hl : ∀ rs M R, φ rs M R → rs.length = ps.length ∧ M.length = n0)
    (hbody : ∀ (cdv : Value) (A : Around) (outer : List Env) (s : Shared) (H : Hp) (E : XK), Room k (A.deeper (envOfC qual scope s.heap.objs.size f cdv)) →
      ∃ ws, QSs J0 (cxOf CX0 P w K mg base N qual scope f cdv A outer s H E).nox n0 body ws ∧ ∀ rs M R, φ rs M R → ws (endsOf n0 R) (startE N rs) M) : FnOk P w K mg base CX0 (k + 1) f fd ps (spD K φ) := by
  refine F.ok Sc (fun vs H Q E h => ?_) fun cdv Ar outer s H vs Q E hr h => ?_
  · obtain ⟨S, A, M, rs, R, st, rv, hφ, _⟩ := h
    rw [rv.len]; exact (hl _ _ _ hφ).1
  · obtain ⟨S, A, M, rs, R, st, rv, hφ, kk⟩ := h
    obtain ⟨ws, ⟨ts, pss, dn⟩, rd⟩ := hbody cdv Ar outer s H E hr
    have hn : A.length = n0 := by rw [st.len]; exact (hl _ _ _ hφ).2
    refine ⟨ts, pss.nox, dn _ _ _ (rd rs M R hφ) S A A (L2.start N vs) H _ hn (List.prefix_refl _) st (start_ok j0_ok rv) (ends_ok st hn kk)⟩
end
end Dw
set_option Elab.async false
set_option linter.all false
set_option maxRecDepth 100000
set_option maxHeartbeats 4000000
/-! Dw10: comprehensions as expressions; joins; truth of lists. -/
namespace Dw
open PySem PySem.Spec PyProof.Rows L2
def canE (J : Bs) (K : PySem.W.Frag) (we : WE) : TE := fun σ H R => ∃ (env : Env') (M : Mem) (Q : Qv) (S A : List Addr), we env M Q ∧ Sto K S A H M ∧ EnvOk J K S A H env σ ∧
  ∀ (v : V) (H' : Hp) (r : Rv) (M' : Mem) (A' : List Addr), Post S A H A' H' → Sto K S A' H' M' → RepV K S A' H' r v → Q r M' → R v H'
def canT (J : Bs) (K : PySem.W.Frag) (wt : WT) : TT := fun σ H R => ∃ (env : Env') (M : Mem) (Q : Bool → Mem → Prop) (S A : List Addr), wt env M Q ∧ Sto K S A H M ∧ EnvOk J K S A H env σ ∧
  ∀ (b : Bool) (H' : Hp) (M' : Mem) (A' : List Addr), Post S A H A' H' → Sto K S A' H' M' → Q b M' → R b H'
def canG (J : Bs) (K : PySem.W.Frag) (ss : List Nat) (wg : WG) : TG := fun v σ H R => ∃ (r : Rv) (env : Env') (M : Mem) (Q : Env' → Mem → Prop) (S A : List Addr), wg r env M Q ∧ Sto K S A H M ∧ EnvOk J K S A H env σ ∧ RepV K S A H r v ∧
  ∀ (σ' : L2.St) (H' : Hp) (env' : Env') (M' : Mem) (A' : List Addr), Post S A H A' H' → Sto K S A' H' M' → EnvOk J K S A' H' env' σ' → (∀ vs : List Nat, (∀ i ∈ ss, i ∈ vs) → wipe σ' vs = wipe σ vs) → Q env' M' → R σ' H'
def QTs (J : Bs) (X : Cx) (ifs : List Expr) (wt : WT) : Prop := ∃ tt, PTs X ifs tt ∧ DnT J X.K tt wt
section
variable {X : Cx} {K : PySem.W.Frag} {n0 : Nat} {e a b c tg iter elt : Expr} {we wa wb : WE} {wt : WT} {ws : WA} {wi : WI} {wg : WG} {ss : List Nat} {p pos apos : Pos}
theorem QE.pe (h : QE J X e we) : PE X e (canE J X.K we) := by
  obtain ⟨te, pe, de⟩ := h
  exact ⟨fun pins s σ H R I ⟨env, M, Q, S, A, hw, st, en, k⟩ => pe.run pins s σ H R I (de env M Q hw S A σ H R st en k)⟩
theorem dn_can : Dn J K (canE J K we) we := fun env M Q hw S A σ H R st en k => ⟨env, M, Q, S, A, hw, st, en, k⟩
theorem QTs.pts {ifs : List Expr} (h : QTs J X ifs wt) : PTs X ifs (canT J X.K wt) := by
  obtain ⟨tt, pt, dt⟩ := h
  exact ⟨fun pins s σ H R I ⟨env, M, Q, S, A, hw, st, en, k⟩ => pt.run pins s σ H R I (dt env M Q hw S A σ H R st en k)⟩
theorem dnt_can : DnT J K (canT J K wt) wt := fun env M Q hw S A σ H R st en k => ⟨env, M, Q, S, A, hw, st, en, k⟩
theorem QG.pg (h : QG J X ss tg wg) : PG X tg (canG J X.K ss wg) := by
  obtain ⟨g, pg, dg⟩ := h
  exact ⟨fun pins s σ H v u R I r ⟨rv, env, M, Q, S, A, hw, st, en, q, k⟩ => pg.run pins s σ H v u R I r (dg rv env M Q hw S A σ H v R st en q k)⟩
theorem dng_can : DnG J K ss (canG J K ss wg) wg := fun r env M Q hw S A σ H v R st en q k => ⟨r, env, M, Q, S, A, hw, st, en, q, k⟩
theorem qts_nil : QTs J X [] wYes := ⟨_, pts_nil, fun env M Q hw S A σ H R st en k => k true H M A Post.refl st hw⟩
theorem qts_one (h : QT J X c wt) : QTs J X [c] wt := by
  obtain ⟨tt, pt, dt⟩ := h
  exact ⟨tt, pts_one pt, dt⟩
variable {ifs : List Expr} {scope : Scope} {own : List (Str × Nat)}
theorem qe_lc (hc : X.calm = true) (hN : X.N.Nodup) (hi : QI J X tg iter wi) (ok : BlkOk X.N X.env.scope scope own) (hss : ∀ i ∈ ss, i ∈ own.map (·.2))
    (hg : ∀ (s : Shared) (H : Hp) (C : Addr) (cl : List (Str × Addr)) (fp : List Addr), QG J (X.blk s H scope (compEnvC scope cl C X.env) fp) ss tg wg)
    (ht : ∀ (s : Shared) (H : Hp) (C : Addr) (cl : List (Str × Addr)) (fp : List Addr), QTs J (X.blk s H scope (compEnvC scope cl C X.env) fp) ifs wt)
    (he : ∀ (s : Shared) (H : Hp) (C : Addr) (cl : List (Str × Addr)) (fp : List Addr), QE J (X.blk s H scope (compEnvC scope cl C X.env) fp) elt we) (hs : ∀ x, foldedSetIterable iter X.env x = pure x := by intro _; rfl) :
    QE J X (.ListComp elt [⟨tg, iter, ifs, 0⟩] scope pos) (wLc wi wg wt we (own.map (·.2))) := by
  obtain ⟨ti, pi, di⟩ := hi
  exact ⟨_, pe_lc hc hN pi ok (g := canG J X.K ss wg) (tt := canT J X.K wt) (te := canE J X.K we) (fun s H C cl fp => (hg s H C cl fp).pg) (fun s H C cl fp => (ht s H C cl fp).pts) (fun s H C cl fp => (he s H C cl fp).pe) hs, dn_lc di dng_can dnt_can dn_can hss⟩
theorem qs_setLc {i : Nat} {y : Str} {py spos : Pos} (hc : X.calm = true) (hN : X.N.Nodup) (hy : X.N[i]? = some y) (hyl : X.env.scope.names.lookup y = some .local)
    (hsw : swapsWith (.ListComp elt [⟨tg, iter, ifs, 0⟩] scope pos) (some (.Name y py)) spos.line X.env = pure true) (hi : QI J X tg iter wi) (ok : BlkOk X.N X.env.scope scope own) (hss : ∀ i ∈ ss, i ∈ own.map (·.2))
    (hg : ∀ (s : Shared) (H : Hp) (C : Addr) (cl : List (Str × Addr)) (fp : List Addr), QG J (X.blk s H scope (compEnvC scope cl C X.env) fp) ss tg wg)
    (ht : ∀ (s : Shared) (H : Hp) (C : Addr) (cl : List (Str × Addr)) (fp : List Addr), QTs J (X.blk s H scope (compEnvC scope cl C X.env) fp) ifs wt)
    (he : ∀ (s : Shared) (H : Hp) (C : Addr) (cl : List (Str × Addr)) (fp : List Addr), QE J (X.blk s H scope (compEnvC scope cl C X.env) fp) elt we) (hs : ∀ x, foldedSetIterable iter X.env x = pure x := by intro _; rfl) :
    QS J X n0 (.Assign [.Name y py] (.ListComp elt [⟨tg, iter, ifs, 0⟩] scope pos) spos) (sSet i (wLc wi wg wt we (own.map (·.2)))) := by
  obtain ⟨ti, pi, di⟩ := hi
  exact ⟨_, ps_setLc hc hN hy hyl hsw pi ok (g := canG J X.K ss wg) (tt := canT J X.K wt) (te := canE J X.K we) (fun s H C cl fp => (hg s H C cl fp).pg) (fun s H C cl fp => (ht s H C cl fp).pts) (fun s H C cl fp => (he s H C cl fp).pe) hs, dns_set (dn_lc di dng_can dnt_can dn_can hss)⟩
/-! ### sep.join(texts) -/
def wJoin (wo we : WE) : WE := fun env M Q => wo env M fun o M1 => ∃ a, o = .d (.str a) ∧ we env M1 fun r M2 => ∃ (x : D), r.dat M2 = some x ∧ ∃ ys : List Str, x.items = some (ys.map .str) ∧ (ys.map (·.length)).sum + ys.length * a.length ≤ 16777216 ∧ Q (.d (.str (Txt.join a ys))) M2
theorem qe_join {o : Expr} {wo : WE} (ho : QE J X o wo) (he : QE J X e we) (hs : starEach [e] X.env = [(false, eval e X.env)] := by rfl) (hbase : attributeBase o "join" X.env (eval o X.env) = eval o X.env := by rfl) (hline : (apos.endLine == pos.line) = true := by rfl) :
    QE J X (.Call (.Attribute o "join" apos) [e] [] pos) (wJoin wo we) := by
  obtain ⟨to, po, do_⟩ := ho
  obtain ⟨te, pe, de⟩ := he
  refine ⟨_, pe_join po pe hs hbase hline, fun env M Q hw S A σ H R st en k => ?_⟩
  refine do_ env M _ hw S A σ H _ st en fun v H1 o1 M1 A1 p1 s1 q1 ⟨a, e1, hw1⟩ => ?_
  subst e1
  cases q1
  refine ⟨⟨a, rfl⟩, ?_⟩
  refine de env M1 _ hw1 S A1 σ H1 _ s1 (en.mono p1) fun u H2 r M2 A2 p2 s2 q2 ⟨x, e2, ys, e3, hz, hq⟩ => ?_
  obtain ⟨pp, vs, rfl, h1, h2⟩ := RepF.items off_sub (s2.dat q2 e2) e3
  rw [h2.strs] at h1
  exact ⟨a, pp, ys, rfl, rfl, h1, hz, k _ H2 (.d (.str (Txt.join a ys))) M2 A2 (p1.trans p2) s2 (show V.str _ = V.str _ from rfl) hq⟩
/-! ### x or y, by truth -/
def D.tru : D → Option Bool
  | .non => some false
  | .bl b => some b
  | .int i => some (i != 0)
  | .str y => if y.length ≤ sizeLine then some ((y.length : Int) != 0) else none
  | .tup ds => some (!ds.isEmpty)
  | .lst ds => some (!ds.isEmpty)
  | _ => none
theorem isE {h : Hp} {ds : List D} {vs : List V} (r : Reps K h ds vs) : vs.isEmpty = ds.isEmpty := by
  cases ds with
  | nil => cases r; rfl
  | cons d ds => obtain ⟨v, us, rfl, _⟩ := r; rfl
theorem tru_f {H h : Hp} {x : D} {v : V} {k : Bool} (e : Same h H) (r : RepF K H h x v) (t : x.tru = some k) : TruV K v H k := by
  cases x with
  | tup ds => obtain ⟨a, vs, rfl, h1, h2⟩ := r; cases t; exact .inr (.inl ⟨vs, same_t e h1, by rw [isE h2]⟩)
  | lst ds => obtain ⟨a, vs, rfl, h1, h2⟩ := r; cases t; exact .inl ⟨vs, h1, by rw [isE h2]⟩
  | non => cases r; cases t; rfl
  | bl b => cases r; cases t; rfl
  | int i => cases r; cases t; rfl
  | str y =>
    cases r
    unfold D.tru at t
    simp only at t
    split at t
    · rename_i hz
      cases t
      exact ⟨hz, rfl⟩
    · cases t
  | _ => cases t
def wOrT (wa wb : WE) : WE := fun env M Q => wa env M fun r M1 => ∃ x, r.dat M1 = some x ∧ ∃ k, x.tru = some k ∧ if k = true then Q r M1 else wb env M1 Q
theorem qe_orT {rest : List Expr} (h : QE J X a wa) (g : QE J X (.BoolOp .Or (b :: rest) pos) wb) : QE J X (.BoolOp .Or (a :: b :: rest) pos) (wOrT wa wb) := by
  obtain ⟨ta, pa, da⟩ := h
  obtain ⟨tb, pb, db⟩ := g
  refine ⟨_, pe_orT pa pb, fun env M Q hw S A σ H R st en k => ?_⟩
  refine da env M _ hw S A σ H _ st en fun v H1 r M1 A1 p1 s1 q1 ⟨x, e1, t, e2, hq⟩ => ?_
  refine ⟨t, tru_f off_sub (s1.dat q1 e1) e2, ?_⟩
  cases t with
  | true => exact k v H1 r M1 A1 p1 s1 q1 hq
  | false => exact db env M1 Q hq S A1 σ H1 R s1 (en.mono p1) fun d H2 r M2 A2 p2 s2 q2 hq2 => k d H2 r M2 A2 (p1.trans p2) s2 q2 hq2
/-- a test by truth: a name, a call, a subscript .. -/
def wTruth (we : WE) : WT := fun env M Q => we env M fun r M1 => ∃ x, r.dat M1 = some x ∧ ∃ k, x.tru = some k ∧ Q k M1
theorem qt_truth (h : QE J X e we) (he : ∀ whole, isTrue e X.env whole = (do let v ← whole; standAt e.pos; holding [v] (truthy v)) := by intro _; rfl) : QT J X e (wTruth we) := by
  obtain ⟨te, pe, de⟩ := h
  refine ⟨_, pt_truth pe he, fun env M Q hw S A σ H R st en k => ?_⟩
  refine de env M _ hw S A σ H _ st en fun v H1 r M1 A1 p1 s1 q1 ⟨x, e1, t, e2, hq⟩ => ?_
  exact ⟨t, tru_f off_sub (s1.dat q1 e1) e2, k t H1 M1 A1 p1 s1 hq⟩
end
end Dw
set_option Elab.async false
set_option linter.all false
set_option maxRecDepth 100000
set_option maxHeartbeats 4000000
/-! DwL: the readings evaluated: small equations; loops by invariants. -/
namespace Dw
open PySem PySem.Spec PyProof.Rows L2
section
variable {i j : Int} {a b : List D} {x y : Str} {p q : Bool} {d : D} {k n : Nat} {M : Mem} {rs : List Rv}
theorem dat_d : (Rv.d d).dat M = some d := rfl
theorem dat_o : (Rv.o k).dat M = (M[k]?).bind fun mo => mo.ls.map D.lst := rfl
theorem ls_lst {ds : List D} : (MO.lst ds).ls = some ds := rfl
theorem ls_la {a : Addr} {ds : List D} : (MO.la a ds).ls = some ds := rfl
theorem ls_dic {kvs : List (Key × D)} : (MO.dic kvs).ls = none := rfl
theorem ls_da {a : Addr} {kvs : List (Key × D)} : (MO.da a kvs).ls = none := rfl
theorem dc_dic {kvs : List (Key × D)} : (MO.dic kvs).dc = some kvs := rfl
theorem dc_da {a : Addr} {kvs : List (Key × D)} : (MO.da a kvs).dc = some kvs := rfl
theorem dc_lst {ds : List D} : (MO.lst ds).dc = none := rfl
theorem dc_la {a : Addr} {ds : List D} : (MO.la a ds).dc = none := rfl
theorem put_lst {ds es : List D} : (MO.lst ds).put es = .lst es := rfl
theorem put_la {a : Addr} {ds es : List D} : (MO.la a ds).put es = .la a es := rfl
theorem dput_dic {ks es : List (Key × D)} : (MO.dic ks).dput es = .dic es := rfl
theorem dput_da {a : Addr} {ks es : List (Key × D)} : (MO.da a ks).dput es = .da a es := rfl
theorem raw_lst {ds : List D} {a : Addr} : (MO.lst ds).raw a = .la a ds := rfl
theorem raw_dic {ks : List (Key × D)} {a : Addr} : (MO.dic ks).raw a = .da a ks := rfl
theorem dAdd_i : dAdd (.int i) (.int j) = some (.int (i + j)) := rfl
theorem dAdd_s : dAdd (.str x) (.str y) = if x.length + y.length ≤ sizeLine then some (.str (x ++ y)) else none := rfl
theorem dAdd_t : dAdd (.tup a) (.tup b) = if a.length + b.length ≤ sizeLine then some (.tup (a ++ b)) else none := rfl
theorem dAdd_l : dAdd (.lst a) (.lst b) = if a.length + b.length ≤ sizeLine then some (.lst (a ++ b)) else none := rfl
theorem dI0_i {g : Int → Int → D} : dI0 g (.int i) (.int j) = some (g i j) := rfl
theorem dMul_i : dMul (.int i) (.int j) = if CMul i j then some (.int (i * j)) else none := rfl
theorem dMul_t : dMul (.tup a) (.int i) = if -1000 ≤ i ∧ i ≤ 1000 ∧ a.length ≤ 1000 then some (.tup (List.replicate i.toNat a).flatten) else none := by
  show (dRepT (.tup a) (.int i)).or none = _
  rw [Option.or_none]; rfl
theorem dMul_s : dMul (.str x) (.int i) = if x.length ≤ 1000 ∧ -1000 ≤ i ∧ i ≤ 1000 then some (.str (strRep x i)) else none := rfl
theorem dMod_i : dMod (.int i) (.int j) = if 0 < j then some (.int (i % j)) else none := by
  show (if decide (0 < j) = true then _ else _) = _
  by_cases h : 0 < j <;> simp [h]
theorem dFdiv_i : dFdiv (.int i) (.int j) = if 0 < j ∧ j < 1073741824 then some (.int (i / j)) else none := by
  show (if decide (CDiv i j) = true then _ else _) = _
  unfold CDiv
  by_cases h : 0 < j ∧ j < 1073741824 <;> simp [h]
theorem dPow_i : dPow (.int i) (.int j) = if 0 ≤ j ∧ j ≤ 1000000 ∧ i.natAbs < 2 ^ 64 then some (.int (i ^ j.toNat)) else none := by
  show (if decide (CPow i j) = true then _ else _) = _
  unfold CPow
  by_cases h : 0 ≤ j ∧ j ≤ 1000000 ∧ i.natAbs < 2 ^ 64 <;> simp [h]
theorem dLt_i : dLt (.int i) (.int j) = some (.bl (decide (i < j))) := rfl
theorem dLe_i : dLe (.int i) (.int j) = some (.bl (decide (i ≤ j))) := rfl
theorem dGt_i : dGt (.int i) (.int j) = some (.bl (decide (j < i))) := rfl
theorem dGe_i : dGe (.int i) (.int j) = some (.bl (decide (j ≤ i))) := rfl
theorem dLt_s : dLt (.str x) (.str y) = some (.bl (decide (x.cps.toList < y.cps.toList))) := rfl
theorem dLe_s : dLe (.str x) (.str y) = some (.bl (!decide (y.cps.toList < x.cps.toList))) := rfl
theorem dGt_s : dGt (.str x) (.str y) = some (.bl (decide (y.cps.toList < x.cps.toList))) := rfl
theorem dGe_s : dGe (.str x) (.str y) = some (.bl (!decide (x.cps.toList < y.cps.toList))) := rfl
theorem dEq_i : dEq (.int i) (.int j) = some (.bl (decide (i = j))) := rfl
theorem dEq_s : dEq (.str x) (.str y) = some (.bl (decide (x = y))) := rfl
theorem dEq_b : dEq (.bl p) (.bl q) = some (.bl (decide (p = q))) := rfl
theorem dEq_is : dEq (.int i) (.str y) = some (.bl false) := rfl
theorem dEq_si : dEq (.str x) (.int j) = some (.bl false) := rfl
theorem dEq_ni : dEq .non (.int j) = some (.bl false) := rfl
theorem dEq_in : dEq (.int j) .non = some (.bl false) := rfl
theorem dEq_sn : dEq (.str x) .non = some (.bl false) := rfl
theorem dEq_ns : dEq .non (.str x) = some (.bl false) := rfl
theorem dNe_i : dNe (.int i) (.int j) = some (.bl (!decide (i = j))) := rfl
theorem dNe_s : dNe (.str x) (.str y) = some (.bl (!decide (x = y))) := rfl
theorem dNe_b : dNe (.bl p) (.bl q) = some (.bl (!decide (p = q))) := rfl
theorem dNe_is : dNe (.int i) (.str y) = some (.bl true) := rfl
theorem dNe_si : dNe (.str x) (.int j) = some (.bl true) := rfl
theorem dNe_ni : dNe .non (.int j) = some (.bl true) := rfl
theorem dNe_in : dNe (.int j) .non = some (.bl true) := rfl
theorem dEq_ok {u v : D} (hf : dEqF u v = none) (hu : u.ok = true) (hv : v.ok = true) : dEq u v = some (.bl (u.eqb v)) := by
  unfold dEq dEqD; rw [hf, hu, hv]; rfl
theorem dNe_ok {u v : D} (hf : dEqF u v = none) (hu : u.ok = true) (hv : v.ok = true) : dNe u v = some (.bl (!u.eqb v)) := by
  unfold dNe; rw [dEq_ok hf hu hv]; rfl
theorem dIs_b {x : D} : dIs x (.bl q) = some (.bl (x.isB q)) := by cases x <;> rfl
theorem isB_b : (D.bl p).isB q = decide (p = q) := rfl
theorem isB_i : (D.int i).isB q = false := rfl
theorem isB_s : (D.str x).isB q = false := rfl
theorem isB_n : D.non.isB q = false := rfl
theorem isB_t : (D.tup a).isB q = false := rfl
theorem isB_l : (D.lst a).isB q = false := rfl
theorem dIs_n : dIs d .non = some (.bl d.isN) := by cases d <;> rfl
theorem dIsNot_b {x : D} : dIsNot x (.bl q) = some (.bl (!x.isB q)) := by cases x <;> rfl
theorem dIsNot_n : dIsNot d .non = some (.bl (!d.isN)) := by cases d <;> rfl
theorem dIx_l : dIx (.lst a) (.int i) = atI a i := rfl
theorem dIx_t : dIx (.tup a) (.int i) = atI a i := rfl
theorem dIx_s : dIx (.str x) (.int i) = if x.length ≤ sizeLine then (atI x.cps.toList i).map fun c => .str ⟨#[c]⟩ else none := rfl
theorem dSl_l {lo hi : Option Int} : dSl lo hi (.lst a) = some (.lst (cutD a lo hi)) := rfl
theorem dSl_t {lo hi : Option Int} : dSl lo hi (.tup a) = some (.tup (cutD a lo hi)) := rfl
theorem dSl_s {lo hi : Option Int} : dSl lo hi (.str x) = if x.length ≤ sizeLine then some (.str (cutS x lo hi)) else none := rfl
theorem atI_0 {α : Type} {x : α} {xs : List α} : atI (x :: xs) (0 : Int) = some x := atI_nat (j := 0) rfl
theorem atI_1 {α : Type} {x y : α} {xs : List α} : atI (x :: y :: xs) (1 : Int) = some y := atI_nat (j := 1) rfl
theorem atI_2 {α : Type} {x y z : α} {xs : List α} : atI (x :: y :: z :: xs) (2 : Int) = some z := atI_nat (j := 2) rfl
theorem atI_3 {α : Type} {a b c x : α} {xs : List α} : atI (a :: b :: c :: x :: xs) (3 : Int) = some x := atI_nat (j := 3) rfl
theorem atI_4 {α : Type} {a b c d x : α} {xs : List α} : atI (a :: b :: c :: d :: x :: xs) (4 : Int) = some x := atI_nat (j := 4) rfl
theorem atI_5 {α : Type} {a b c d e x : α} {xs : List α} : atI (a :: b :: c :: d :: e :: x :: xs) (5 : Int) = some x := atI_nat (j := 5) rfl
theorem map_int_inj : ∀ {as bs : List Int}, as.map D.int = bs.map D.int ↔ as = bs
  | [], [] => by simp
  | [], _ :: _ => by simp
  | _ :: _, [] => by simp
  | a :: as, b :: bs => by
    rw [List.map_cons, List.map_cons, List.cons.injEq, List.cons.injEq, D.int.injEq, map_int_inj]
theorem map_str_inj : ∀ {as bs : List Str}, as.map D.str = bs.map D.str ↔ as = bs
  | [], [] => by simp
  | [], _ :: _ => by simp
  | _ :: _, [] => by simp
  | a :: as, b :: bs => by
    rw [List.map_cons, List.map_cons, List.cons.injEq, List.cons.injEq, D.str.injEq, map_str_inj]
theorem atI_of {α : Type} {xs : List α} {i : Int} {v : α} (h0 : 0 ≤ i) (h : xs[i.toNat]? = some v) : atI xs i = some v := by
  have := atI_nat h
  rwa [Int.toNat_of_nonneg h0] at this
theorem atI_map {α β : Type} (f : α → β) (xs : List α) (i : Int) : atI (xs.map f) i = (atI xs i).map f := by
  unfold atI
  rw [List.length_map]
  cases ixN xs.length i <;> simp
theorem fLen_t {z : D} : fLen [.tup a] z ↔ z = .int a.length := Iff.rfl
theorem fLen_l {z : D} : fLen [.lst a] z ↔ z = .int a.length := Iff.rfl
theorem fLen_s {z : D} : fLen [.str x] z ↔ z = .int x.length ∧ x.length ≤ sizeLine := And.comm
theorem fInt_i {z : D} : fInt [.int i] z ↔ z = .int i := Iff.rfl
theorem fInt_b {z : D} : fInt [.bl p] z ↔ z = .int (if p then 1 else 0) := Iff.rfl
theorem fTup_l {z : D} : fTup [.lst a] z ↔ z = .tup a := ⟨fun ⟨_, e, h⟩ => by cases e; exact h, fun h => ⟨a, rfl, h⟩⟩
theorem fTup_t {z : D} : fTup [.tup a] z ↔ z = .tup a := ⟨fun ⟨_, e, h⟩ => by cases e; exact h, fun h => ⟨a, rfl, h⟩⟩
theorem fList_l {z : D} : fList [.lst a] z ↔ z = .lst a := ⟨fun ⟨_, e, h⟩ => by cases e; exact h, fun h => ⟨a, rfl, h⟩⟩
theorem fList_t {z : D} : fList [.tup a] z ↔ z = .lst a := ⟨fun ⟨_, e, h⟩ => by cases e; exact h, fun h => ⟨a, rfl, h⟩⟩
theorem fMax2_i {z : D} : fMax2 [.int i, .int j] z ↔ z = .int (max i j) := Iff.rfl
theorem fMin2_i {z : D} : fMin2 [.int i, .int j] z ↔ z = .int (min i j) := Iff.rfl
theorem fAbs_i {z : D} : fAbs [.int i] z ↔ z = .int (if i < 0 then -i else i) := Iff.rfl
theorem fAll_of {bs : List Bool} : fAll [.lst (bs.map .bl)] (.bl (bs.all fun b => b)) := ⟨bs, rfl, rfl⟩
theorem fAny_of {bs : List Bool} : fAny [.lst (bs.map .bl)] (.bl (bs.any fun b => b)) := ⟨bs, rfl, rfl⟩
theorem fSum_of {ns : List Int} : fSum [.lst (ns.map .int)] (.int ns.sum) := ⟨ns, rfl, rfl⟩
theorem fIsi_of {n : String} {k : String} (hk : d.kind = some k) (hn : n ∈ isiNames) : fIsi [d, .ty n] (.bl (isiTab k n)) := ⟨hn, k, hk, rfl⟩
theorem fIsi_iff {n : String} {z : D} {k : String} (hk : d.kind = some k) (hn : n ∈ isiNames) : fIsi [d, .ty n] z ↔ z = .bl (isiTab k n) := by
  constructor
  · rintro ⟨_, k', h1, h2⟩
    rw [hk] at h1; cases h1; exact h2
  · rintro rfl; exact ⟨hn, k, hk, rfl⟩
theorem isi_int_int {z : D} : fIsi [.int i, .ty "int"] z ↔ z = .bl true := fIsi_iff (n := "int") (k := "int") rfl (by decide)
theorem isi_int_bool {z : D} : fIsi [.int i, .ty "bool"] z ↔ z = .bl false := fIsi_iff (n := "bool") (k := "int") rfl (by decide)
theorem isi_int_str {z : D} : fIsi [.int i, .ty "str"] z ↔ z = .bl false := fIsi_iff (n := "str") (k := "int") rfl (by decide)
theorem isi_int_tup {z : D} : fIsi [.int i, .ty "tuple"] z ↔ z = .bl false := fIsi_iff (n := "tuple") (k := "int") rfl (by decide)
theorem isi_int_lst {z : D} : fIsi [.int i, .ty "list"] z ↔ z = .bl false := fIsi_iff (n := "list") (k := "int") rfl (by decide)
theorem isi_bl_int {z : D} : fIsi [.bl p, .ty "int"] z ↔ z = .bl true := fIsi_iff (n := "int") (k := "bool") rfl (by decide)
theorem isi_bl_bool {z : D} : fIsi [.bl p, .ty "bool"] z ↔ z = .bl true := fIsi_iff (n := "bool") (k := "bool") rfl (by decide)
theorem isi_bl_str {z : D} : fIsi [.bl p, .ty "str"] z ↔ z = .bl false := fIsi_iff (n := "str") (k := "bool") rfl (by decide)
theorem isi_bl_tup {z : D} : fIsi [.bl p, .ty "tuple"] z ↔ z = .bl false := fIsi_iff (n := "tuple") (k := "bool") rfl (by decide)
theorem isi_str_int {z : D} : fIsi [.str x, .ty "int"] z ↔ z = .bl false := fIsi_iff (n := "int") (k := "str") rfl (by decide)
theorem isi_str_bool {z : D} : fIsi [.str x, .ty "bool"] z ↔ z = .bl false := fIsi_iff (n := "bool") (k := "str") rfl (by decide)
theorem isi_str_str {z : D} : fIsi [.str x, .ty "str"] z ↔ z = .bl true := fIsi_iff (n := "str") (k := "str") rfl (by decide)
theorem isi_str_tup {z : D} : fIsi [.str x, .ty "tuple"] z ↔ z = .bl false := fIsi_iff (n := "tuple") (k := "str") rfl (by decide)
theorem isi_tup_int {z : D} : fIsi [.tup a, .ty "int"] z ↔ z = .bl false := fIsi_iff (n := "int") (k := "tuple") rfl (by decide)
theorem isi_tup_bool {z : D} : fIsi [.tup a, .ty "bool"] z ↔ z = .bl false := fIsi_iff (n := "bool") (k := "tuple") rfl (by decide)
theorem isi_tup_str {z : D} : fIsi [.tup a, .ty "str"] z ↔ z = .bl false := fIsi_iff (n := "str") (k := "tuple") rfl (by decide)
theorem isi_tup_tup {z : D} : fIsi [.tup a, .ty "tuple"] z ↔ z = .bl true := fIsi_iff (n := "tuple") (k := "tuple") rfl (by decide)
theorem isi_lst_int {z : D} : fIsi [.lst a, .ty "int"] z ↔ z = .bl false := fIsi_iff (n := "int") (k := "list") rfl (by decide)
theorem isi_lst_bool {z : D} : fIsi [.lst a, .ty "bool"] z ↔ z = .bl false := fIsi_iff (n := "bool") (k := "list") rfl (by decide)
theorem isi_lst_str {z : D} : fIsi [.lst a, .ty "str"] z ↔ z = .bl false := fIsi_iff (n := "str") (k := "list") rfl (by decide)
theorem isi_lst_tup {z : D} : fIsi [.lst a, .ty "tuple"] z ↔ z = .bl false := fIsi_iff (n := "tuple") (k := "list") rfl (by decide)
theorem isi_lst_lst {z : D} : fIsi [.lst a, .ty "list"] z ↔ z = .bl true := fIsi_iff (n := "list") (k := "list") rfl (by decide)
theorem isi_non_int {z : D} : fIsi [.non, .ty "int"] z ↔ z = .bl false := fIsi_iff (n := "int") (k := "NoneType") rfl (by decide)
theorem isi_non_bool {z : D} : fIsi [.non, .ty "bool"] z ↔ z = .bl false := fIsi_iff (n := "bool") (k := "NoneType") rfl (by decide)
theorem isi_non_str {z : D} : fIsi [.non, .ty "str"] z ↔ z = .bl false := fIsi_iff (n := "str") (k := "NoneType") rfl (by decide)
theorem isi_non_tup {z : D} : fIsi [.non, .ty "tuple"] z ↔ z = .bl false := fIsi_iff (n := "tuple") (k := "NoneType") rfl (by decide)
theorem items_t : (D.tup a).items = some a := rfl
theorem items_l : (D.lst a).items = some a := rfl
theorem ds_nil : ds? [] = some [] := rfl
theorem ds_cons : ds? (.d d :: rs) = (ds? rs).map (d :: ·) := rfl
theorem dats_nil : dats M [] = some [] := rfl
theorem dats_cons {r : Rv} (h : r.dat M = some d) : dats M (r :: rs) = (dats M rs).map (d :: ·) := by
  show (match r.dat M, dats M rs with
    | some d, some ds => some (d :: ds)
    | _, _ => none) = _
  rw [h]
  cases dats M rs <;> rfl
theorem dats_d : dats M (.d d :: rs) = (dats M rs).map (d :: ·) := dats_cons rfl
theorem toC_nil : toC k [] = some [] := rfl
theorem toC_d : toC k (.d d :: rs) = (toC k rs).map (.d d :: ·) := rfl
theorem toC_o : toC k (.o k :: rs) = (toC k rs).map (.o 0 :: ·) := by
  show (if k = k then (toC k rs).map (.o 0 :: ·) else none) = _
  rw [if_pos rfl]
theorem shf_d : shf k (.d d) = .d d := rfl
theorem bck_d : bck k n (.d d) = .d d := rfl
theorem frz_d {ds : List D} : frzR k ds (.d d) = .d d := rfl
theorem frz_o0 {ds : List D} : frzR 0 ds (.o 0) = .d (.lst ds) := rfl
theorem frz_o1 {ds : List D} : frzR 1 ds (.o 1) = .d (.lst ds) := rfl
theorem frz_o10 {ds : List D} : frzR 1 ds (.o 0) = .o 0 := rfl
theorem tru_l : D.tru (.lst a) = some (!a.isEmpty) := rfl
theorem tru_t : D.tru (.tup a) = some (!a.isEmpty) := rfl
theorem tru_b : D.tru (.bl p) = some p := rfl
theorem tru_i : D.tru (.int i) = some (i != 0) := rfl
theorem tru_n : D.tru .non = some false := rfl
theorem retR_o {R : Rv → Mem → Prop} {k : Nat} : retR n R (.o k) M = if k < n then R (.o k) (M.take n) else ∃ mo, M[k]? = some mo ∧ R (.o n) (M.take n ++ [mo]) := rfl
theorem retR_d {R : Rv → Mem → Prop} : retR n R (.d d) M = R (.d d) (M.take n) := rfl
theorem sz {n : Nat} (h : n ≤ 10000000) : n ≤ sizeLine := Nat.le_trans h (by rw [sizeLine_eq]; decide)
theorem sz' {n : Nat} (h : n ≤ 10000000) : n < sizeLine := Nat.lt_of_le_of_lt h (by rw [sizeLine_eq]; decide)
theorem cut_take {α : Type} (xs : List α) (k : Nat) : cutD xs none (some (k : Int)) = xs.take k := by
  unfold cutD
  rw [HT.sIx_none, HT.sIx_nat, List.drop_zero, Nat.sub_zero]
  by_cases h : k ≤ xs.length
  · rw [Nat.min_eq_left h]
  · rw [Nat.min_eq_right (by omega), List.take_length, List.take_of_length_le (by omega)]
theorem cut_drop {α : Type} (xs : List α) (k : Nat) : cutD xs (some (k : Int)) none = xs.drop k := by
  unfold cutD
  rw [HT.sIx_none, HT.sIx_nat]
  by_cases h : k ≤ xs.length
  · rw [Nat.min_eq_left h, List.take_of_length_le (by rw [List.length_drop]; omega)]
  · rw [Nat.min_eq_right (by omega), Nat.sub_self, List.take_zero, List.drop_of_length_le (by omega)]
theorem cut_last {α : Type} (xs : List α) : cutD xs none (some (-1)) = xs.dropLast := by
  unfold cutD
  have e : HT.sIx xs.length xs.length (some (-1)) = xs.length - 1 := by
    show (if (-1 : Int) < 0 then ((-1 : Int) + (xs.length : Int)).toNat else min (-1 : Int).toNat xs.length) = _
    rw [if_pos (by decide)]; omega
  rw [HT.sIx_none, e, List.drop_zero, Nat.sub_zero, List.dropLast_eq_take]
theorem cut_map {α β : Type} (f : α → β) (xs : List α) (lo hi : Option Int) : cutD (xs.map f) lo hi = (cutD xs lo hi).map f := by
  unfold cutD
  rw [List.length_map, List.map_take, List.map_drop]
theorem fAll_map {α : Type} {l : List α} {g : α → Bool} : fAll [.lst (l.map fun x => .bl (g x))] (.bl (l.all g)) := by
  refine ⟨l.map g, by rw [List.map_map]; rfl, ?_⟩
  rw [List.all_map]; rfl
theorem fAny_map {α : Type} {l : List α} {g : α → Bool} : fAny [.lst (l.map fun x => .bl (g x))] (.bl (l.any g)) := by
  refine ⟨l.map g, by rw [List.map_map]; rfl, ?_⟩
  rw [List.any_map]; rfl
theorem CMul_iff {i j : Int} : CMul i j ↔ (-(2 ^ 64) < i ∧ i < 2 ^ 64) ∨ (-(2 ^ 64) < j ∧ j < 2 ^ 64) := Iff.rfl
theorem ixN_def (n : Nat) (i : Int) : ixN n i = if 0 ≤ i then (if i < n then some i.toNat else none) else if -(n : Int) ≤ i then some (i + n).toNat else none := rfl
theorem atI_mem {α : Type} {xs : List α} {i : Int} {v : α} (h : atI xs i = some v) : v ∈ xs := by
  obtain ⟨j, _, e, _⟩ := atI_get h
  exact List.mem_of_getElem? e
theorem atI_in {α : Type} {xs : List α} {i : Int} (h0 : 0 ≤ i) (h : i < xs.length) : ∃ v, atI xs i = some v := by
  have hj : i.toNat < xs.length := by omega
  exact ⟨xs[i.toNat], atI_of h0 (List.getElem?_eq_getElem hj)⟩
theorem rng_len (lo : Int) (n : Nat) : (rngD lo n).length = n := rngD_len
/-! ### order, equality of ints -/
theorem py_ints : ∀ ns : List Int, D.pys (ns.map .int) = some (ns.map .int)
  | [] => rfl
  | n :: ns => by simp only [List.map_cons,D.pys,D.py,py_ints ns]
theorem can_ints : ∀ ns : List Int, PyData.canLayAll0 (ns.map .int) = true
  | [] => by simp [PyData.canLayAll0]
  | n :: ns => by simp [PyData.canLayAll0, PyData.canLay0, can_ints ns]
theorem dep_ints : ∀ ns : List Int, PyData.depthAll (ns.map .int) ≤ 1
  | [] => by simp [PyData.depthAll]
  | n :: ns => by
    have := dep_ints ns
    simp only [List.map_cons,PyData.depthAll,PyData.depth]
    omega
theorem ok_ints (ns : List Int) : (D.tup (ns.map .int)).ok = true := by
  have h := dep_ints ns
  simp only [D.ok,D.py,py_ints,Option.map_some,SeqAt.shaped,PyData.canLay0,can_ints,Bool.true_and,PyData.depth]
  exact decide_eq_true (by omega)
theorem okL_ints (ns : List Int) : (D.lst (ns.map .int)).ok = true := by
  have h := dep_ints ns
  simp only [D.ok,D.py,py_ints,Option.map_some,SeqAt.shaped,PyData.canLay0,can_ints,Bool.true_and,PyData.depth]
  exact decide_eq_true (by omega)
theorem eqv_ints : ∀ ns ms : List Int, PyData.eqvAll (ns.map .int) (ms.map .int) = decide (ns = ms)
  | [], [] => by simp [PyData.eqvAll]
  | [], m :: ms => by simp [PyData.eqvAll]
  | n :: ns, [] => by simp [PyData.eqvAll]
  | n :: ns, m :: ms => by
    simp only [List.map_cons,PyData.eqvAll,PyData.eqv,eqv_ints ns ms]
    by_cases h : n = m <;> by_cases h2 : ns = ms <;> simp [h, h2]
theorem dEq_ti (ns ms : List Int) : dEq (.tup (ns.map .int)) (.tup (ms.map .int)) = some (.bl (decide (ns = ms))) := by
  rw [dEq_ok rfl (ok_ints _) (ok_ints _)]
  simp only [D.eqb,D.py,py_ints,Option.map_some,PyData.eqv,eqv_ints]
theorem dEq_li (ns ms : List Int) : dEq (.lst (ns.map .int)) (.lst (ms.map .int)) = some (.bl (decide (ns = ms))) := by
  rw [dEq_ok rfl (okL_ints _) (okL_ints _)]
  simp only [D.eqb,D.py,py_ints,Option.map_some,PyData.eqv,eqv_ints]
theorem fSorted_ints {x : D} {ns : List Int} (hx : x.items = some (ns.map .int)) : fSorted [x] (.lst ((ns.mergeSort fun a b => decide (a ≤ b)).map .int)) := by
  refine ⟨_, _, hx, py_ints ns, ⟨fun d hd d' hd' => ?_, .inl (.inr fun d hd => ?_), fun d hd => ?_⟩, ?_⟩
  · obtain ⟨m, _, rfl⟩ := List.mem_map.mp hd
    obtain ⟨m', _, rfl⟩ := List.mem_map.mp hd'
    simp [PySem.W.alike]
  · obtain ⟨m, _, rfl⟩ := List.mem_map.mp hd
    exact ⟨by simp, by simp⟩
  · obtain ⟨m, _, rfl⟩ := List.mem_map.mp hd
    simp [PyData.depth]
  · rw [List.map_mergeSort (f := D.int) (s := dLeB)]
    intro m hm m' hm'
    unfold dLeB
    rw [show (PySem.W.dataLe false D.key (D.int m) (D.int m')) = PySem.W.dataLe false (fun b : Int => PyData.int b) m m' from rfl, PySem.W.dataLe_int (fun b : Int => b)]
end
theorem u64 {k : Nat} {A : Around} (hr : Room k A) : A.units + 64 < cLine := hr.units
theorem u70 {k : Nat} {A : Around} (hr : Room k A) : A.units + 70 < cLine := by have := hr.un; omega
/-! ### loops -/
theorem for_nil {wg : WG} {wb : WS} {n : Nat} {E : EndsD} {env : Env'} {M : Mem} (h : E.nx env M) : wForL wg wb n [] E env M := h
theorem for_cons {wg : WG} {wb : WS} {n : Nat} {d : D} {ds : List D} {E : EndsD} {env : Env'} {M : Mem}
    (h : wg (.d d) env M fun env1 M1 => wb ⟨fun e m => wForL wg wb n ds E (cutE n e) (m.take n), E.rt, E.nx, fun e m => wForL wg wb n ds E (cutE n e) (m.take n)⟩ env1 M1) : wForL wg wb n (d :: ds) E env M :=
  ⟨fun e m => wForL wg wb n ds E e m, fun _ _ q => q, h⟩
/-- a loop by an invariant over the turns done -/
theorem for_inv {wg : WG} {wb : WS} {n : Nat} {E : EndsD} (I : Nat → Env' → Mem → Prop) : ∀ (ds : List D) (k : Nat) {env : Env'} {M : Mem}, I k env M →
    (∀ (i : Nat) (d : D) (env : Env') (M : Mem), ds[i]? = some d → I (k + i) env M → wg (.d d) env M fun env1 M1 => wb ⟨fun e m => I (k + i + 1) (cutE n e) (m.take n), E.rt, E.nx, fun e m => I (k + i + 1) (cutE n e) (m.take n)⟩ env1 M1) →
    (∀ env M, I (k + ds.length) env M → E.nx env M) → wForL wg wb n ds E env M
  | [], k, env, M, h0, hs, hd => hd env M h0
  | d :: ds, k, env, M, h0, hs, hd => ⟨I (k + 1), fun e m h => for_inv I ds (k + 1) h (fun i d env M hd hi => by
      have := hs (i + 1) d env M (by simpa using hd) (by rw [show k + (i + 1) = k + 1 + i by omega]; exact hi)
      rw [show k + (i + 1) + 1 = k + 1 + i + 1 by omega] at this
      exact this) (fun env M h => hd env M (by rw [List.length_cons, show k + (ds.length + 1) = k + 1 + ds.length by omega]; exact h)), hs 0 d env M rfl h0⟩
theorem for_0 {wg : WG} {wb : WS} {n : Nat} {E : EndsD} {ds : List D} {env : Env'} {M : Mem} (I : Nat → Env' → Mem → Prop) (h0 : I 0 env M)
    (hs : ∀ (i : Nat) (d : D) (env : Env') (M : Mem), ds[i]? = some d → I i env M → wg (.d d) env M fun env1 M1 => wb ⟨fun e m => I (i + 1) (cutE n e) (m.take n), E.rt, E.nx, fun e m => I (i + 1) (cutE n e) (m.take n)⟩ env1 M1)
    (hd : ∀ env M, I ds.length env M → E.nx env M) : wForL wg wb n ds E env M :=
  for_inv I ds 0 h0 (fun i d env M e h => by rw [Nat.zero_add] at h ⊢; exact hs i d env M e h) fun env M h => hd env M (by rw [Nat.zero_add] at h; exact h)
/-- a while by an invariant and a measure -/
theorem whl {wt : WT} {wb : WS} {E : EndsD} {env : Env'} {M : Mem} (I : Nat → Env' → Mem → Prop) (m0 : Nat) (h0 : I m0 env M)
    (hs : ∀ (m : Nat) (env : Env') (M' : Mem), I m env M' → ∃ N : Env' → Mem → Prop, (∀ e m', N e m' → ∃ j, j < m ∧ I j e m') ∧ wt env M' fun b M1 => if b = true then wb ⟨fun e m' => N (cutE M.length e) (m'.take M.length), E.rt, E.nx, fun e m' => N (cutE M.length e) (m'.take M.length)⟩ env M1 else E.nx env M1) : sWhile wt wb E env M := by
  have go : ∀ (k : Nat) (m : Nat) (env : Env') (M' : Mem), m < k → I m env M' → wWhileN wt wb M.length k E env M' := by
    intro k
    induction k with
    | zero => intro m env M' h _; omega
    | succ k ih =>
      intro m env M' h hi
      obtain ⟨N, hN, q⟩ := hs m env M' hi
      exact ⟨N, fun e m' hn => by
        obtain ⟨j, hj, hI⟩ := hN e m' hn
        exact ih j e m' (by omega) hI, q⟩
  exact ⟨m0 + 1, go (m0 + 1) m0 env M (Nat.lt_succ_self _) h0⟩
/-! ### comprehensions -/
/-- by an invariant over the items done, what may change, the list so far -/
theorem lc_inv {wg : WG} {wt : WT} {we : WE} {env : Env'} {Q : List D → Mem → Prop} (I : Nat → Mem → List D → Prop) : ∀ (ds : List D) (k : Nat) {M : Mem} {acc : List D}, I k M acc →
    (∀ (i : Nat) (d : D) (M : Mem) (acc : List D), ds[i]? = some d → I (k + i) M acc → wg (.d d) env M fun env1 M1 => wt env1 M1 fun b M2 => if b = true then we env1 M2 fun y M3 => ∃ z, y = .d z ∧ I (k + i + 1) M3 (acc ++ [z]) else I (k + i + 1) M2 acc) →
    (∀ M acc, I (k + ds.length) M acc → Q acc M) → wLcL wg wt we env ds M acc Q
  | [], k, M, acc, h0, hs, hd => hd M acc h0
  | d :: ds, k, M, acc, h0, hs, hd => ⟨I (k + 1), fun m a h => lc_inv I ds (k + 1) h (fun i d M acc hd hi => by
      have := hs (i + 1) d M acc (by simpa using hd) (by rw [show k + (i + 1) = k + 1 + i by omega]; exact hi)
      rw [show k + (i + 1) + 1 = k + 1 + i + 1 by omega] at this
      exact this) (fun M acc h => hd M acc (by rw [List.length_cons, show k + (ds.length + 1) = k + 1 + ds.length by omega]; exact h)), hs 0 d M acc rfl h0⟩
/-- where nothing changes: filter and map -/
theorem lc_map {α : Type} {wg : WG} {wt : WT} {we : WE} {env : Env'} {Q : List D → Mem → Prop} (c : α → D) (p : α → Bool) (f : α → D) (xs : List α) {M : Mem}
    (hs : ∀ x ∈ xs, ∀ (G : Mem → List D → Prop) (acc : List D), (p x = true → G M (acc ++ [f x])) → (p x = false → G M acc) → wg (.d (c x)) env M fun env1 M1 => wt env1 M1 fun b M2 => if b = true then we env1 M2 fun y M3 => ∃ z, y = .d z ∧ G M3 (acc ++ [z]) else G M2 acc)
    (hd : Q ((xs.filter p).map f) M) : wLcL wg wt we env (xs.map c) M [] Q := by
  refine lc_inv (fun i M' acc => M' = M ∧ acc = ((xs.take i).filter p).map f) (xs.map c) 0 ⟨rfl, by simp⟩ (fun i d M' acc e h => ?_) (fun M' acc h => ?_)
  · obtain ⟨rfl, rfl⟩ := h
    rw [Nat.zero_add]
    rw [List.getElem?_map] at e
    cases hx : xs[i]? with
    | none => rw [hx] at e; cases e
    | some x =>
      rw [hx] at e
      cases e
      have tk : xs.take (i + 1) = xs.take i ++ [x] := by rw [List.take_add_one, hx]; rfl
      refine hs x (List.mem_of_getElem? hx) (fun M' acc => M' = _ ∧ acc = ((xs.take (i + 1)).filter p).map f) _ (fun hp => ⟨rfl, ?_⟩) (fun hp => ⟨rfl, ?_⟩)
      · rw [tk, List.filter_append, List.map_append]; simp [hp]
      · rw [tk, List.filter_append, List.map_append]; simp [hp]
  · obtain ⟨rfl, rfl⟩ := h
    rw [Nat.zero_add, List.length_map, List.take_length]
    exact hd
/-- the same without a test -/
theorem lc_map' {α : Type} {wg : WG} {we : WE} {env : Env'} {Q : List D → Mem → Prop} (c : α → D) (f : α → D) (xs : List α) {M : Mem}
    (hs : ∀ x ∈ xs, ∀ G : D → Mem → Prop, G (f x) M → wg (.d (c x)) env M fun env1 M1 => we env1 M1 fun y M3 => ∃ z, y = .d z ∧ G z M3)
    (hd : Q (xs.map f) M) : wLcL wg wYes we env (xs.map c) M [] Q := by
  refine lc_map c (fun _ => true) f xs (fun x hx G acc h1 _ => ?_) ?_
  · simp only [wYes,if_true]
    exact hs x hx (fun z m => G m (acc ++ [z])) (h1 rfl)
  · rw [List.filter_eq_self.mpr (fun _ _ => rfl)]; exact hd
theorem lc_nil {wg : WG} {wt : WT} {we : WE} {env : Env'} {Q : List D → Mem → Prop} {M : Mem} {acc : List D} (h : Q acc M) : wLcL wg wt we env [] M acc Q := h
theorem lc_cons {wg : WG} {wt : WT} {we : WE} {env : Env'} {Q : List D → Mem → Prop} {M : Mem} {acc : List D} {d : D} {ds : List D}
    (h : wg (.d d) env M fun env1 M1 => wt env1 M1 fun b M2 => if b = true then we env1 M2 fun y M3 => ∃ z, y = .d z ∧ wLcL wg wt we env ds M3 (acc ++ [z]) Q else wLcL wg wt we env ds M2 acc Q) : wLcL wg wt we env (d :: ds) M acc Q :=
  ⟨fun m a => wLcL wg wt we env ds m a Q, fun _ _ h => h, h⟩
end Dw
set_option Elab.async false
set_option linter.all false
set_option maxRecDepth 100000
set_option maxHeartbeats 4000000
/-! DwT: try with several clauses, some of them with a name. -/
namespace Dw
open PySem PySem.Spec PyProof.Rows L2
/-- one clause: the class, the slot of its name (if it has one), its suite -/
structure Cl where
  c : Value
  i : Option Nat
  ts : Addr → Value → Option Addr → TS
/-- behind a suite the name is gone -/
def clEnds : Option Nat → Ends → Ends
  | none, D => D
  | some i, D => ⟨fun σ H => D.nx (σ.set i none) H, D.rt, fun σ H => D.bk (σ.set i none) H, fun σ H => D.ct (σ.set i none) H⟩
def clIn : Option Nat → Addr → L2.St → L2.St
  | none, _, σ => σ
  | some i, a, σ => σ.set i (some (.ref a))
def wCls (K : PySem.W.Frag) (Wo : WX) (D : Ends) : List Cl → WX
  | [] => Wo
  | q :: l => fun cls d σ H => (PySem.W.exmOne K cls q.c = some true ∧ ∀ a, H a = none → q.ts a cls d (clEnds q.i D) (clIn q.i a σ) H) ∨ (PySem.W.exmOne K cls q.c = some false ∧ wCls K Wo D l cls d σ H)
abbrev SuOk (X : Cx) (b : List Stmt) (ts : Addr → Value → Option Addr → TS) : Prop := ∀ (a : Addr) (oe : Obj) (cls : Value) (d : Option Addr) (pn : List (Addr × Obj)), Zc cls d oe → (∃ vs, oe.data = .fields vs) → PSs (X.suite a ((a, oe) :: pn)) b (ts a cls d)
inductive ClOk (X : Cx) : List ExceptHandler → List Cl → Prop
  | nil : ClOk X [] []
  | bare {x : Str} {c : Value} {ts : Addr → Value → Option Addr → TS} {b : Stmt} {bs : List Stmt} {p1 p2 : Pos} {hds : List ExceptHandler} {l : List Cl} : Names X x c → SuOk X (b :: bs) ts → ClOk X hds l → ClOk X (.ExceptHandler (some (.Name x p1)) none (b :: bs) p2 :: hds) (⟨c, none, ts⟩ :: l)
  | named {x n : Str} {i : Nat} {c : Value} {ts : Addr → Value → Option Addr → TS} {b : Stmt} {bs : List Stmt} {p1 p2 : Pos} {hds : List ExceptHandler} {l : List Cl} : Names X x c → X.N[i]? = some n → X.env.kindOf n = some .local → SuOk X (b :: bs) ts → ClOk X hds l →
      ClOk X (.ExceptHandler (some (.Name x p1)) (some n) (b :: bs) p2 :: hds) (⟨c, some i, ts⟩ :: l)
/-- caught: an exception of cls at a in state s; begun from sI -/
structure Cau (X : Cx) (pins : List (Addr × Obj)) (σ : L2.St) (H : Hp) (a : Addr) (cls : Value) (d : Option Addr) (B : Heap) (sI s : Shared) : Prop where
  J : Inv X pins σ H sI
  nb : ∀ b o, sI.heap.get? b = some o → b ∉ frs X.stack → B.get? b = some o
  up : sI.heap.UpToSlots s.heap
  fl : HandSPX.FlyingZ B (X.env :: X.outer) a (Zc cls d) s.heap
  na : H a = none
  os : s.os = sI.os
  ag : AllBare s.gens
section
variable {X : Cx} {pins : List (Addr × Obj)} {σ : L2.St} {H : Hp} {a : Addr} {cls c : Value} {d : Option Addr} {B : Heap} {sI s : Shared}
theorem Cau.to {h : Heap} (k : Cau X pins σ H a cls d B sI s) (f : HandSPX.FlyingZ B (X.env :: X.outer) a (Zc cls d) h) (u : s.heap.UpToSlots h) : Cau X pins σ H a cls d B sI { s with heap := h } :=
  ⟨k.J, k.nb, k.up.trans u, f, k.na, k.os, k.ag⟩
theorem Cau.inv (k : Cau X pins σ H a cls d B sI s) : Inv X pins σ H s := k.J.landed k.nb k.fl.1 k.up k.os k.ag
/-- in the suite -/
theorem Cau.suite (hf : X.env.frame = some X.env.locals) (k : Cau X pins σ H a cls d B sI s) : ∃ oe, s.heap.get? a = some oe ∧ Zc cls d oe ∧ (∃ vs, oe.data = .fields vs) ∧ Inv (X.suite a ((a, oe) :: (X.pn ++ pins))) [] σ H s := by
  obtain ⟨oe, vs, e1, e2, e3⟩ := k.fl.there
  have away : a ∉ frs (X.env :: X.outer) := fun m => by
    obtain ⟨_, o2, e4, hn⟩ := k.fl.2.2.1.mem m
    cases e1.symm.trans e4
    exact hn _ e3
  refine ⟨oe, e1, e2, ⟨vs, e3⟩, k.inv.suite e1 e3 k.na (fun z => away ?_) fun m => ?_⟩
  · exact List.mem_filterMap.mpr ⟨X.env, List.mem_cons_self, by rw [hf, z]⟩
  · obtain ⟨e, h1, h2⟩ := List.mem_filterMap.mp m
    exact away (List.mem_filterMap.mpr ⟨e, List.mem_cons_of_mem _ h1, h2⟩)
/-- the clause's class, looked up while the exception is handled -/
theorem Cau.test {x : Str} {p1 : Pos} {Q E : Value → Shared → Prop} (hf : X.env.frame = some X.env.locals) (hc : Names X x c) (k : Cau X pins σ H a cls d B sI s) (q : Q c s) : wpAny (model X.prog X.w) (X.A.mark (some (.ref a))) (eval (.Name x p1) X.env) Q E s := by
  obtain ⟨oe, _, _, _, S⟩ := k.suite hf
  rcases hc with ⟨g, db, m | ⟨m, v, nn⟩⟩
  · exact ld_glob S g m q db
  · exact ld_blt S g m v q nn db
theorem Cau.looks {b : Bool} (k : Cau X pins σ H a cls d B sI s) (hb : PySem.W.exmOne X.K cls c = some b) : PySem.W.Looks (model X.prog X.w) s.heap (excMatches (.ref a) c) b := by
  obtain ⟨oe, vs, e1, e2, e3⟩ := k.fl.there
  refine PySem.W.exm_one k.inv.kIn (fun A Q E s2 kk q => ?_) hb
  exact wpAny_typeOf_ref (kk _ _ e1) (by rw [e2.1]; exact q)
/-- the suite of a clause that fits -/
theorem Cau.run_bare {D : Ends} {b : Stmt} {bs : List Stmt} {ts : Addr → Value → Option Addr → TS} {E : Value → Shared → Prop} (hf : X.env.frame = some X.env.locals) (k : Cau X pins σ H a cls d B sI s) (su : SuOk X (b :: bs) ts) (q : ts a cls d D σ H) :
    wpAny (model X.prog X.w) (X.A.mark (some (.ref a))) (execs (b :: bs) X.env) (SP X pins D) E s := by
  obtain ⟨oe, e1, hz, hv, S⟩ := k.suite hf
  refine wpAny_mono ((su a oe cls d _ hz hv).run [] s σ H D S q) (fun fl s6 r => ?_) fun _ _ z => z.elim
  cases fl with
  | ret u => obtain ⟨v6, σ6, H6, I6, r6, q6⟩ := r; exact ⟨v6, σ6, H6, I6.unsuite k.J.ok, r6, q6⟩
  | next => obtain ⟨σ6, H6, I6, q6⟩ := r; exact ⟨σ6, H6, I6.unsuite k.J.ok, q6⟩
  | brk => obtain ⟨σ6, H6, I6, q6⟩ := r; exact ⟨σ6, H6, I6.unsuite k.J.ok, q6⟩
  | cont => obtain ⟨σ6, H6, I6, q6⟩ := r; exact ⟨σ6, H6, I6.unsuite k.J.ok, q6⟩
theorem cl_handlers {D : Ends} {Wo : WX} (hs : X.stack = X.env :: X.outer) (hf : X.env.frame = some X.env.locals) (hN : X.N.Nodup) (tk : Takes X Wo) :
    ∀ {hds : List ExceptHandler} {l : List Cl}, ClOk X hds l → ∀ {s : Shared}, Cau X pins σ H a cls d B sI s → wCls X.K Wo D l cls d σ H → wpAny (model X.prog X.w) X.A (handleBy (.ref a) X.env hds) (SP X pins D) X.xe s := by
  intro hds l ok
  induction ok with
  | nil =>
    intro s k w
    obtain ⟨_, _, _, oe, vs, T, oT, ts', e1, e2, e3, e4, _⟩ := id k.fl
    refine wpAny_handleBy_nil ?_
    unfold PySem.passOn
    refine wpAny_bind (wpAny_field e1 e3 e4 ?_)
    rw [if_neg (by simp)]
    have out : wpAny (model X.prog X.w) X.A (setFlight (.ref a) X.env.frame) (fun _ s4 => wpAny (model X.prog X.w) X.A (throw (.ref a) : Sem Flow) (SP X pins D) X.xe s4) X.xe s := by
      rw [hf]
      refine HandSPX.setFlight_upZ k.fl fun h4 hh4 u4 => wpAny_throw (tk _ _ ⟨a, B, sI, pins, σ, H, cls, d, rfl, k.J, k.nb, k.up.trans u4, .inr (.inr ?_), k.na, k.os, k.ag, w⟩)
      rw [hs]; exact hh4
    first
      | exact wpAny_bind (wpAny_pure (wpAny_bind out))
      | exact wpAny_bind out
  | bare hc su _ ih =>
    intro s k w
    refine wpAny_handleBy_cons (codeAny_handlers_test (k.test hf hc ?_)) (by intro z; cases z)
    rcases w with ⟨m, y⟩ | ⟨m, y⟩
    · refine (k.looks m).here (codeAny_handlers_suite (HandSPX.lands_againZ k.fl fun h4 f4 u4 => ?_))
      exact (k.to f4 u4).run_bare hf su (y a k.na)
    · exact (k.looks m).here (ih k y)
  | named hc hi hl su _ ih =>
    intro s k w
    refine wpAny_handleBy_cons (codeAny_handlers_test (k.test hf hc ?_)) (by intro z; cases z)
    rcases w with ⟨m, y⟩ | ⟨m, y⟩
    · refine (k.looks m).here (codeAny_handlers_suite_as (HandSPX.lands_againZ k.fl fun h4 f4 u4 => ?_))
      have k4 := k.to f4 u4
      obtain ⟨oe, e1, hz, hv, S⟩ := k4.suite hf
      refine store_ok (X := X.suite a ((a, oe) :: (X.pn ++ pins))) (v := .ref a) S hN hi (.inl hl) rfl (fun s5 S5 => ?_) (.inr hl)
      refine wpAny_mono ((su a oe cls d _ hz hv).run [] s5 _ H _ S5 (y a k.na)) (fun fl s6 r => ?_) fun _ _ z => z.elim
      cases fl with
      | ret u => obtain ⟨v6, σ6, H6, I6, r6, q6⟩ := r; exact gone_ok (I6.unsuite k.J.ok) hN hi hl fun s7 J7 => ⟨v6, _, H6, J7, r6, q6⟩
      | next => obtain ⟨σ6, H6, I6, q6⟩ := r; exact gone_ok (I6.unsuite k.J.ok) hN hi hl fun s7 J7 => ⟨_, H6, J7, q6⟩
      | brk => obtain ⟨σ6, H6, I6, q6⟩ := r; exact gone_ok (I6.unsuite k.J.ok) hN hi hl fun s7 J7 => ⟨_, H6, J7, q6⟩
      | cont => obtain ⟨σ6, H6, I6, q6⟩ := r; exact gone_ok (I6.unsuite k.J.ok) hN hi hl fun s7 J7 => ⟨_, H6, J7, q6⟩
    · exact (k.looks m).here (ih k y)
theorem ps_tryC {Wo : WX} {h0 : ExceptHandler} {hds : List ExceptHandler} {l : List Cl} {body : List Stmt} {pos : Pos} {tb : WX → TS} (hs : X.stack = X.env :: X.outer) (hf : X.env.frame = some X.env.locals) (hN : X.N.Nodup) (tk : Takes X Wo)
    (hb : ∀ (W : WX) (pn : List (Addr × Obj)) (xe : Value → Shared → Prop), Takes (X.tr pn xe) W → PassesOwn (model X.prog X.w) X.A X.env xe → PSs (X.tr pn xe) body (tb W)) (ok : ClOk X (h0 :: hds) l) :
    PS X (.Try body (h0 :: hds) [] [] pos) (fun D σ H => tb (wCls X.K Wo D l) D σ H) := by
  refine ⟨fun pins s σ H D I h => wpAny_Try_except ?_⟩
  have fr : X.A.frames = some (X.env :: X.outer) := I.ok.frames.trans (by rw [hs])
  have go := (hb (wCls X.K Wo D l) (X.pn ++ pins) (fun e s1 => wpAny (model X.prog X.w) X.A (noteFrame e X.env) (fun _ s2 => wpAny (model X.prog X.w) X.A (setFlight e none) (fun _ s3 => wpAny (model X.prog X.w) X.A (handleBy e X.env (h0 :: hds)) (SP X pins D) X.xe s3) X.xe s2) X.xe s1) ?_ PassesOwn.looking).run [] s σ H D (I.toTry _) h
  · refine wpAny_mono go (fun fl s1 r => ?_) fun _ _ z => z
    cases fl with
    | ret u => obtain ⟨v6, σ6, H6, I6, r6, q6⟩ := r; exact ⟨v6, σ6, H6, I6.ofTry I.ok, r6, q6⟩
    | next => obtain ⟨σ6, H6, I6, q6⟩ := r; exact wpAny_execs_nil ⟨σ6, H6, I6.ofTry I.ok, q6⟩
    | brk => obtain ⟨σ6, H6, I6, q6⟩ := r; exact ⟨σ6, H6, I6.ofTry I.ok, q6⟩
    | cont => obtain ⟨σ6, H6, I6, q6⟩ := r; exact ⟨σ6, H6, I6.ofTry I.ok, q6⟩
  · rintro u s' ⟨a, B, sI, pins', σ', H', cls, d, rfl, J, nb, up, sky, na, os, ag, w⟩
    have sky' : Sky B (X.env :: X.outer) a (Zc cls d) X.env.locals s'.heap := by rw [← hs]; exact sky
    refine Sky.land Zc.steady fr hf sky' fun h3 f3 u3 => ?_
    exact cl_handlers hs hf hN tk ok (B := B) (sI := sI) ⟨J.ofTry I.ok, nb, up.trans u3, f3, na, os, ag⟩ w
end
end Dw
set_option Elab.async false
set_option linter.all false
set_option maxRecDepth 100000
set_option maxHeartbeats 4000000
/-! DwX: exceptions of one's own: contracts that may end by one, raise, try. -/
namespace Dw
open PySem PySem.Spec PyProof.Rows L2
/-- an exception: its class, its fields -/
structure Ex where
  C : Addr
  fs : List (Str × D)
/-- fields and what stands for them -/
def FsRep (K : PySem.W.Frag) (h : Hp) : List (Str × D) → List (Str × V) → Prop
  | [], vs => vs = []
  | p :: fs, vs => ∃ v us, vs = (p.1, v) :: us ∧ Rep K h p.2 v ∧ FsRep K h fs us
section
variable {K : PySem.W.Frag} {h h' : Hp}
theorem FsRep.mono (e : Same h h') : ∀ {fs : List (Str × D)} {vs : List (Str × V)}, FsRep K h fs vs → FsRep K h' fs vs
  | [], _, r => r
  | _ :: _, _, ⟨v, us, e1, e2, e3⟩ => ⟨v, us, e1, Rep.mono e _ v e2, FsRep.mono e e3⟩
theorem FsRep.app : ∀ {fs : List (Str × D)} {vs : List (Str × V)} {gs : List (Str × D)} {us : List (Str × V)}, FsRep K h fs vs → FsRep K h gs us → FsRep K h (fs ++ gs) (vs ++ us)
  | [], _, _, _, r, s => by cases r; exact s
  | _ :: _, _, _, _, ⟨v, us, e1, e2, e3⟩, s => by subst e1; exact ⟨v, _, rfl, e2, FsRep.app e3 s⟩
theorem FsRep.rev : ∀ {fs : List (Str × D)} {vs : List (Str × V)}, FsRep K h fs vs → FsRep K h fs.reverse vs.reverse
  | [], _, r => by cases r; rfl
  | p :: fs, _, ⟨v, us, e1, e2, e3⟩ => by
    subst e1
    rw [List.reverse_cons, List.reverse_cons]
    exact FsRep.app (FsRep.rev e3) ⟨v, [], rfl, e2, rfl⟩
theorem FsRep.zip : ∀ {ns : List Str} {ds : List D} {vs : List V}, Reps K h ds vs → FsRep K h (ns.zip ds) (ns.zip vs)
  | [], _, _, _ => rfl
  | n :: ns, [], _, r => by cases r; rfl
  | n :: ns, d :: ds, _, ⟨v, us, e1, e2, e3⟩ => by subst e1; exact ⟨v, _, rfl, e2, FsRep.zip e3⟩
theorem look_vs {f : Str} {x : D} : ∀ {l : List (Str × D)} {vs : List (Str × V)}, FsRep K h l vs → l.lookup f = some x → ∃ v, vs.lookup f = some v ∧ Rep K h x v
  | [], _, _, h => by cases h
  | (g, y) :: l, _, ⟨v, us, e1, e2, e3⟩, q => by
    subst e1
    rw [List.lookup_cons]
    rw [List.lookup_cons] at q
    cases z : f == g with
    | true => rw [z] at q; cases q; exact ⟨v, rfl, e2⟩
    | false => rw [z] at q; exact look_vs e3 q
end
theorem reps_at {K : PySem.W.Frag} {S A : List Addr} {H : Hp} : ∀ {rs : List Rv} {ds : List D} {vs : List V}, RepVs K S A H rs vs → ds? rs = some ds → Reps K (off H (S ++ A)) ds vs
  | [], _, _, r, e => by cases r; cases e; rfl
  | .d x :: rs, _, _, ⟨v, us, e1, e2, e3⟩, e => by
    subst e1
    unfold ds? at e
    cases z : ds? rs with
    | none => rw [z] at e; cases e
    | some es => rw [z] at e; cases e; exact ⟨v, us, rfl, e2, reps_at e3 z⟩
  | .o _ :: _, _, _, _, e => by cases e
/-- its object's dict lies at a place that is not hidden -/
def ExRep (K : PySem.W.Frag) (B : List Addr) (H : Hp) (e : Ex) (cls : Value) (d : Option Addr) : Prop := cls = .ref e.C ∧ ∃ dd, d = some dd ∧ dd ∉ B ∧ ∃ fv, H dd = some (.xd fv) ∧ FsRep K (off H B) e.fs fv
/-- since a run's begin the hidden stays, what was in view is in view -/
structure Fr (S : List Addr) (H H' : Hp) : Prop where
  hid : ∀ a ∈ S, H' a = H a
  view : Same (off H S) (off H' S)
abbrev CtX := (Ex → Prop) → Ct
def spX (K : PySem.W.Frag) (φ : CtX) : Sp := fun vs H Q E => ∃ S rs R hx, Sto K S [] H [] ∧ RepVs K S [] H rs vs ∧ φ hx rs [] R ∧
  (∀ r M', R r M' → ∀ (v : V) (H' : Hp) (A' : List Addr), Same (view S [] H) (view S A' H') → (∀ a ∈ S, H' a = H a) → Sto K S A' H' M' → RepV K S A' H' r v → Q v H') ∧
  ∀ e, hx e → ∀ (cls : Value) (d : Option Addr) (H' : Hp), Fr S H H' → ExRep K S H' e cls d → E cls d H'
/-- what an exception that hx allows leads to is wished for -/
def Lk (J : Bs) (X : Cx) (hx : Ex → Prop) : Prop := ∃ Wd : XK, Takes X (fun c d _ H => Wd c d H) ∧ ∀ e, hx e → ∀ (S A : List Addr) (H : Hp) (cls : Value) (d : Option Addr), JOk S A H J → ExRep X.K (S ++ A) H e cls d → Wd cls d H
theorem lk_none {J : Bs} {X : Cx} : Lk J X fun _ => False := ⟨fun _ _ _ => False, takes_none5, fun _ h => h.elim⟩
theorem JOk.fr {J : Bs} {S A : List Addr} {H : Hp} (j : JOk S A H J) : Fr J.S0 J.H0 H := ⟨fun a ha => j.hid a ha, j.view.trans (off_less fun a ha => List.mem_append_left _ (j.sub a ha))⟩
theorem ExRep.less {K : PySem.W.Frag} {B B' : List Addr} {H : Hp} {e : Ex} {cls : Value} {d : Option Addr} (h : ExRep K B H e cls d) (s : ∀ a ∈ B', a ∈ B) : ExRep K B' H e cls d := by
  obtain ⟨h1, dd, h2, h3, fv, h4, h5⟩ := h
  exact ⟨h1, dd, h2, fun z => h3 (s dd z), fv, h4, h5.mono (off_less s)⟩
section
variable {K : PySem.W.Frag} {S A : List Addr} {H : Hp} {M : Mem}
theorem call_dataX {J : Bs} {φ : CtX} {hx : Ex → Prop} {rs : List Rv} {ds : List D} {vs : List V} {Q : Qv} {R : VK} {Wd : XK} (st : Sto K S A H M) (jk : JOk S A H J) (rv : RepVs K S A H rs vs) (e : ds? rs = some ds) (h : φ hx (ds.map .d) [] fun r M' => Q (shf M.length r) (M ++ M'))
    (hW : ∀ e, hx e → ∀ (S A : List Addr) (H : Hp) (cls : Value) (d : Option Addr), JOk S A H J → ExRep K (S ++ A) H e cls d → Wd cls d H)
    (k : ∀ (v : V) (H' : Hp) (r : Rv) (M' : Mem) (A' : List Addr), Post S A H A' H' → Sto K S A' H' M' → RepV K S A' H' r v → Q r M' → R v H') : spX K φ vs H R Wd := by
  have sm : Same (view S A H) (view (S ++ A) [] H) := off_less fun a ha => by simpa using ha
  refine ⟨S ++ A, ds.map .d, _, hx, ⟨rfl, by simp, by simp, st.trk', by simp⟩, reps_ds rv e _ _ sm, h, fun r M' hq v H' A' vw hid s' rv' => ?_, fun ex hex cls d H' fr er => ?_⟩
  · have hH : ∀ a ∈ S ++ A, H' a = H a := hid
    have v1 : Same (view S A H) (view S (A ++ A') H') := (sm.trans vw).trans (off_less fun a ha => by simpa [or_assoc] using ha)
    have v2 : Same (view (S ++ A) A' H') (view S (A ++ A') H') := off_less fun a ha => by simpa [or_assoc] using ha
    have p : Post S A H (A ++ A') H' := ⟨List.prefix_append _ _, v1, fun a ha => hH a (List.mem_append_left _ ha)⟩
    refine k v H' (shf M.length r) (M ++ M') (A ++ A') p ⟨by simp [st.len, s'.len], ?_, fun a ha => ?_, fun a ha => ?_, fun i mo a h1 h2 => ?_⟩ ?_ hq
    · rw [List.nodup_append]
      refine ⟨st.nd, s'.nd, fun a ha b hb e => s'.dj b hb (List.mem_append_right _ (e ▸ ha))⟩
    · rcases List.mem_append.mp ha with ha | ha
      · exact st.dj a ha
      · exact fun z => s'.dj a ha (List.mem_append_left _ z)
    · obtain ⟨o, eo⟩ := st.trk a ha
      exact ⟨o, by rw [hH a (List.mem_append_left _ ha)]; exact eo⟩
    · by_cases hi : i < A.length
      · rw [List.getElem?_append_left hi] at h2
        rw [List.getElem?_append_left (by rw [← st.len]; exact hi)] at h1
        exact (st.mem i mo a h1 h2).to (hH a (List.mem_append_right _ (List.mem_of_getElem? h2))) v1
      · rw [List.getElem?_append_right (by omega)] at h2
        rw [List.getElem?_append_right (by rw [← st.len]; omega), ← st.len] at h1
        exact (s'.mem _ mo a h1 h2).to rfl v2
    · cases r with
      | d x => exact Rep.mono v2 _ _ rv'
      | o i =>
        obtain ⟨a, ea, rfl⟩ := rv'
        exact ⟨a, by rw [List.getElem?_append_right (by rw [st.len]; omega), ← st.len, Nat.add_sub_cancel_left]; exact ea, rfl⟩
  · refine hW ex hex S A H' cls d (jk.mono ⟨List.prefix_refl _, ?_, fun a ha => fr.hid a (List.mem_append_left _ ha)⟩) er
    exact fr.view
end
/-! ### calls -/
section
variable {J : Bs} {X : Cx} {k : Nat} {f : Addr} {fd : FuncData} {ps : List Str} {φ : CtX} {hx : Ex → Prop} {x : Str} {p pos : Pos} {e : Expr} {es : List Expr} {ws wk : WA} {kws : List Keyword}
theorem passX {X : Cx} {Wd : XK} (tk : Takes X (fun c d _ H => Wd c d H)) : Passes (L2.CX X.prog X.w) X Wd := passes_call tk fun _ _ _ _ h => h
theorem qe_callX (F : FnOk X.prog X.w X.K X.mg X.base (L2.CX X.prog X.w) k f fd ps (spX X.K φ)) (lk : Lk J X hx) (hr : Room k X.A) (hg : Gl X x) (hm : X.mg x = some (.ref f)) (hk : PySem.W.keepIn X.K (.ref f) = true) (hb : Binds X.K fd ps [])
    (ha : QA J X (e :: es) ws) (hdb : (x == ("__debug__" : Str)) = false := by decide) (he : starEach (e :: es) X.env = (false, eval e X.env) :: starEach es X.env := by rfl) (hpl : (backTo pos (starEach es X.env)).any (·.1) = false := by rfl) :
    QE J X (.Call (.Name x p) (e :: es) [] pos) (wCall (φ hx) ws) := by
  obtain ⟨ta, pa, da⟩ := ha
  obtain ⟨Wd, tk, hW⟩ := lk
  refine ⟨_, pe_call F hr hg hm hk hb .nil (passX tk) pa hdb he hpl, fun env M Q hw S A σ H R st en k => ?_⟩
  refine da env M _ hw S A σ H _ st en fun vs H1 rs M1 A1 p1 s1 q1 ⟨ds, e, h⟩ => ?_
  rw [List.append_nil]
  exact call_dataX s1 (en.mono p1).j q1 e h hW fun v H' r M' A' p s q hq => k v H' r M' A' (p1.trans p) s q hq
theorem dn_callKX {n : Nat} {π : List Nat} {t tk : TA} {Wd : XK} (hW : ∀ e, hx e → ∀ (S A : List Addr) (H : Hp) (cls : Value) (d : Option Addr), JOk S A H J → ExRep X.K (S ++ A) H e cls d → Wd cls d H)
    (ha : DnA J X.K t ws) (hk : DnA J X.K tk wk) : Dn J X.K (tCallK (spX X.K φ) (kg n π) Wd t tk) (wCall (φ hx) (wKw n π ws wk)) := by
  intro env M Q hw S A σ H R st en k
  refine ha env M _ hw S A σ H _ st en fun vs H1 rs M1 A1 p1 s1 q1 hw1 => ?_
  refine hk env M1 _ hw1 S A1 σ H1 _ s1 (en.mono p1) fun us H2 zs M2 A2 p2 s2 q2 ⟨ds, e, h⟩ => ?_
  have q3 : RepVs X.K S A2 H2 (kg n π rs zs) (kg n π vs us) := (q1.mono p2).kg q2
  exact call_dataX s2 ((en.mono p1).mono p2).j q3 e h hW fun v H' r M' A' p s q hq => k v H' r M' A' ((p1.trans p2).trans p) s q hq
theorem qe_callKX {n : Nat} {π : List Nat} {ks : List Str} (F : FnOk X.prog X.w X.K X.mg X.base (L2.CX X.prog X.w) k f fd ps (spX X.K φ)) (lk : Lk J X hx) (hr : Room k X.A) (hg : Gl X x) (hm : X.mg x = some (.ref f)) (hk : PySem.W.keepIn X.K (.ref f) = true) (hb : KBinds X.K fd ps ks (kg n π) (kg n π))
    (ha : QA J X (e :: es) ws) (hkw : QK J X kws wk) (hall : (backToKw pos (keywordEach kws X.env)).all (·.1.isSome) = true := by rfl) (hks : (backToKw pos (keywordEach kws X.env)).filterMap (·.1) = ks := by rfl)
    (hdb : (x == ("__debug__" : Str)) = false := by decide) (he : starEach (e :: es) X.env = (false, eval e X.env) :: starEach es X.env := by rfl)
    (hpl : ((backTo pos (starEach (e :: es) X.env)).any (·.1) || (backToKw pos (keywordEach kws X.env)).any (·.1.isNone)) = false := by rfl) :
    QE J X (.Call (.Name x p) (e :: es) kws pos) (wCall (φ hx) (wKw n π ws wk)) := by
  obtain ⟨ta, pa, da⟩ := ha
  obtain ⟨tk, pk, dk⟩ := hkw
  obtain ⟨Wd, tkk, hW⟩ := lk
  exact ⟨_, pe_callK F hr hg hm hk hb (passX tkk) pa pk hall hks hdb he hpl, dn_callKX hW da dk⟩
theorem qe_callK0X {n : Nat} {π : List Nat} {ks : List Str} (F : FnOk X.prog X.w X.K X.mg X.base (L2.CX X.prog X.w) k f fd ps (spX X.K φ)) (lk : Lk J X hx) (hr : Room k X.A) (hg : Gl X x) (hm : X.mg x = some (.ref f)) (hk : PySem.W.keepIn X.K (.ref f) = true) (hb : KBinds X.K fd ps ks (kg n π) (kg n π))
    (hkw : QK J X kws wk) (hall : (backToKw pos (keywordEach kws X.env)).all (·.1.isSome) = true := by rfl) (hks : (backToKw pos (keywordEach kws X.env)).filterMap (·.1) = ks := by rfl)
    (hdb : (x == ("__debug__" : Str)) = false := by decide)
    (hpl : ((backTo pos (starEach [] X.env)).any (·.1) || (backToKw pos (keywordEach kws X.env)).any (·.1.isNone)) = false := by rfl) :
    QE J X (.Call (.Name x p) [] kws pos) (wCall (φ hx) (wKw n π wNil wk)) := by
  obtain ⟨tk, pk, dk⟩ := hkw
  obtain ⟨Wd, tkk, hW⟩ := lk
  exact ⟨_, pe_callK0 F hr hg hm hk hb (passX tkk) pk hall hks hdb hpl, dn_callKX hW (fun env M Q hw S A σ H R st en k => k [] H [] M A Post.refl st rfl hw) dk⟩
end
/-! ### a def that may end by an exception -/
section
variable {K : PySem.W.Frag} {P : Program} {w : World} {mg : Str → Option Value} {base : Heap} {x qual : Str} {params : Arguments} {body : List Stmt} {scope : Scope} {f : Addr} {fd : FuncData}
theorem fnX {N ps : List Str} {k : Nat} {φ : CtX} (F : FunD K x qual params body scope [] [] f fd) (Sc : FnScope N ps scope) (hl : ∀ hx rs M R, φ hx rs M R → rs.length = ps.length ∧ M.length = 0)
    (hbody : ∀ (cdv : Value) (A : Around) (outer : List Env) (s : Shared) (H : Hp) (E : XK) (J : Bs) (hx : Ex → Prop), Room k (A.deeper (envOfC qual scope s.heap.objs.size f cdv)) → Lk J (cxOf (L2.CX P w) P w K mg base N qual scope f cdv A outer s H E) hx →
      PassesOwn (model P w) (A.deeper (envOfC qual scope s.heap.objs.size f cdv)) (envOfC qual scope s.heap.objs.size f cdv) (cxOf (L2.CX P w) P w K mg base N qual scope f cdv A outer s H E).xe →
      ∃ ws, QSs J (cxOf (L2.CX P w) P w K mg base N qual scope f cdv A outer s H E) 0 body ws ∧ ∀ rs R, φ hx rs [] R → ws (endsOf 0 R) (startE N rs) []) : FnOk P w K mg base (L2.CX P w) (k + 1) f fd ps (spX K φ) := by
  refine F.ok Sc (fun vs H Q E h => ?_) fun cdv Ar outer s H vs Q E hr h => ?_
  · obtain ⟨S, rs, R, hx, st, rv, hφ, _⟩ := h
    rw [rv.len]; exact (hl _ _ _ _ hφ).1
  · obtain ⟨S, rs, R, hx, st, rv, hφ, kk, ke⟩ := h
    have jk : JOk S [] H ⟨S, H⟩ := ⟨fun _ h => h, fun _ _ => rfl, off_less fun a ha => by simpa using ha⟩
    have lk : Lk ⟨S, H⟩ (cxOf (L2.CX P w) P w K mg base N qual scope f cdv Ar outer s H E) hx := ⟨E, takes_of rfl rfl rfl rfl, fun e he S' A' H' cls d j r => ke e he cls d H' j.fr (r.less fun a ha => List.mem_append_left _ (j.sub a ha))⟩
    obtain ⟨ws, ⟨ts, pss, dn⟩, rd⟩ := hbody cdv Ar outer s H E ⟨S, H⟩ hx hr lk (passes_of rfl)
    refine ⟨ts, pss, dn _ _ _ (rd rs R hφ) S [] [] (L2.start N vs) H _ rfl (List.prefix_refl _) st (start_ok jk rv) (ends_ok st rfl fun r M' hq v H' A' _ => kk r M' hq v H' A')⟩
end
/-! ### raise -/
/-- an own __init__ that keeps its arguments as fields of these names -/
def spI (C : Addr) (ns : List Str) : Sp := fun vs H Q _ => ∃ (a : Addr) (ys : List V), vs = .ref a :: ys ∧ ys.length = ns.length ∧ H a = some (exo a C none) ∧
  ∀ dx, H dx = none → dx ≠ a → Q .non (upd (upd H dx (exd dx (ns.zip ys).reverse)) a (exo a C (some dx)))
/-- raise C(..): the fields, the last first -/
def sRaise (hx : Ex → Prop) (C : Addr) (ns : List Str) (ws : WA) : WS := fun _ env M => ws env M fun rs _ => ∃ ds, ds? rs = some ds ∧ (ds.length = ns.length ∧ ns.length ≤ 10) ∧ hx ⟨C, (ns.zip ds).reverse⟩
section
variable {J : Bs} {X : Cx} {k n0 : Nat} {fI : Addr} {fd : FuncData} {C : Addr} {ns ps : List Str} {hx : Ex → Prop} {x : Str} {p pos pos2 : Pos} {e : Expr} {es : List Expr} {ws : WA}
theorem qs_raise (hc : X.calm = true) (T : OexC X.K C) (iC : PySem.W.findIn X.K (.ref C) "__init__" = some (some (.ref fI))) (tI : PySem.W.typeIn X.K (.ref fI) = some (.type "function")) (F1 : FnOk X.prog X.w X.K X.mg X.base CX0 k fI fd ps (spI C ns)) (hb : Binds X.K fd ps [])
    (lk : Lk J X hx) (hr : Room (k + 1) X.A) (hg : Gl X x) (hm : X.mg x = some (.ref C)) (ha : QA J X (e :: es) ws)
    (hdb : (x == ("__debug__" : Str)) = false := by decide) (he : starEach (e :: es) X.env = (false, eval e X.env) :: starEach es X.env := by rfl) (hpl : (backTo pos (starEach es X.env)).any (·.1) = false := by rfl) :
    QS J X n0 (.Raise (some (.Call (.Name x p) (e :: es) [] pos)) none pos2) (sRaise hx C ns ws) := by
  obtain ⟨ta, pa, da⟩ := ha
  obtain ⟨Wd, tk, hW⟩ := lk
  refine ⟨_, ps_raise hc tk (pmk_oex T iC tI F1 hr hb .nil (fun _ _ _ _ _ _ _ z => z.elim) hg hm pa hdb he hpl), fun E env M hw S P A σ H D hn hp st en eo => ?_⟩
  refine da env M _ hw S A σ H _ st en fun vs H1 rs M1 A1 p1 s1 q1 ⟨ds, e1, ⟨hl, hten⟩, h⟩ => ?_
  have ev := reps_at q1 e1
  have hvl : vs.length = ns.length := by rw [ev.len, hl]
  refine ⟨by omega, fun a ha => ⟨a, vs ++ [], rfl, by rw [List.append_nil]; exact hvl, upd_same, fun dx hdx hne => ⟨rfl, dx, (ns.zip (vs ++ [])).reverse, upd_same, ?_, ?_, ?_⟩⟩⟩
  · rw [upd_ne hne, upd_same]
  · rw [upd_ne hne] at hdx; exact hdx
  · have hd1 : H1 dx = none := by rw [upd_ne hne] at hdx; exact hdx
    have eh : ∀ o, upd (del (upd (upd (upd H1 a (exo a C none)) dx (exd dx (ns.zip (vs ++ [])).reverse)) a (exo a C (some dx))) a) dx o = upd H1 dx o := fun o => by
      funext b
      by_cases hb : b = dx
      · subst hb; rw [upd_same, upd_same]
      · rw [upd_ne hb, upd_ne hb]
        by_cases hba : b = a
        · subst hba; rw [del_same, ha]
        · rw [del_ne hba, upd_ne hba, upd_ne hb, upd_ne hba]
    rw [eh, List.append_nil]
    have fr := s1.fresh hd1
    refine hW _ h S A1 _ _ _ ((en.mono p1).j.mono ⟨List.prefix_refl _, off_same (same_upd hd1), fun b hb => upd_ne fun z => fr (List.mem_append_left _ (z ▸ hb))⟩) ⟨rfl, dx, rfl, fr, _, upd_same, ((FsRep.zip ev).rev).mono (off_same (same_upd hd1))⟩
end
/-! ### an own __init__: self.f = f -/
section
variable {K : PySem.W.Frag} {P : Program} {w : World} {mg : Str → Option Value} {base : Heap} {qual : Str} {params : Arguments} {scope : Scope} {fI C : Addr} {fd : FuncData} {s0 v1 v2 f1 f2 : Str} {p1 p2 p3 p4 q1 q2 q3 q4 : Pos}
/-- a name that may be read -/
def NmOk (scope : Scope) (x : Str) : Prop := Vis scope x ∧ (x == ("__debug__" : Str)) = false ∧ (x == ("__classdict__" : Str)) = false
theorem ok_init1 (F : FunD K "__init__" qual params [.Assign [.Attribute (.Name s0 p1) f1 p2] (.Name v1 p3) p4] scope [] [] fI fd) (Sc : FnScope [s0, v1] [s0, v1] scope) (h0 : NmOk scope s0) (h1 : NmOk scope v1)
    (T : OexC K C) (hn : PySem.W.findIn K (.ref C) f1 = some none) : FnOk P w K mg base CX0 1 fI fd [s0, v1] (spI C [f1]) := by
  refine F.ok Sc (fun vs H Q E h => ?_) fun cdv Ar outer s H vs Q E hr h => ?_
  · obtain ⟨a, ys, rfl, hl, _⟩ := h
    simp [hl]
  · obtain ⟨a, ys, rfl, hl, ha, hq⟩ := h
    obtain ⟨y, rfl⟩ : ∃ y, ys = [y] := by
      match ys, hl with
      | [y], _ => exact ⟨y, rfl⟩
    refine ⟨_, PSs.nox (pss_one (ps_ost (pe_var (i := 0) rfl h0.1 h0.2.1 h0.2.2) (pe_var (i := 1) rfl h1.1 h1.2.1 h1.2.2))), ?_⟩
    exact ⟨y, rfl, .ref a, rfl, a, C, rfl, T, hn, .inl ⟨ha, fun dx hd ne => hq dx hd ne⟩⟩
theorem ok_init2 (F : FunD K "__init__" qual params [.Assign [.Attribute (.Name s0 p1) f1 p2] (.Name v1 p3) p4, .Assign [.Attribute (.Name s0 q1) f2 q2] (.Name v2 q3) q4] scope [] [] fI fd) (Sc : FnScope [s0, v1, v2] [s0, v1, v2] scope) (h0 : NmOk scope s0) (h1 : NmOk scope v1) (h2 : NmOk scope v2)
    (T : OexC K C) (hn : PySem.W.findIn K (.ref C) f1 = some none) (hn2 : PySem.W.findIn K (.ref C) f2 = some none) : FnOk P w K mg base CX0 1 fI fd [s0, v1, v2] (spI C [f1, f2]) := by
  refine F.ok Sc (fun vs H Q E h => ?_) fun cdv Ar outer s H vs Q E hr h => ?_
  · obtain ⟨a, ys, rfl, hl, _⟩ := h
    simp [hl]
  · obtain ⟨a, ys, rfl, hl, ha, hq⟩ := h
    obtain ⟨y, z, rfl⟩ : ∃ y z, ys = [y, z] := by
      match ys, hl with
      | [y, z], _ => exact ⟨y, z, rfl⟩
    refine ⟨_, PSs.nox (pss_cons (ps_ost (pe_var (i := 0) rfl h0.1 h0.2.1 h0.2.2) (pe_var (i := 1) rfl h1.1 h1.2.1 h1.2.2)) (pss_one (ps_ost (pe_var (i := 0) rfl h0.1 h0.2.1 h0.2.2) (pe_var (i := 2) rfl h2.1 h2.2.1 h2.2.2)))), ?_⟩
    refine ⟨y, rfl, .ref a, rfl, a, C, rfl, T, hn, .inl ⟨ha, fun dx hd ne => ?_⟩⟩
    refine ⟨z, rfl, .ref a, rfl, a, C, rfl, T, hn2, .inr ⟨dx, [(f1, y)], upd_same, by rw [upd_ne ne, upd_same], by simp, ?_⟩⟩
    have e : upd (upd (upd H dx (exd dx [(f1, y)])) a (exo a C (some dx))) dx (exd dx ((f2, z) :: [(f1, y)])) = upd (upd H dx (exd dx [(f2, z), (f1, y)])) a (exo a C (some dx)) := by
      funext b
      by_cases hb : b = dx
      · subst hb; rw [upd_same, upd_ne ne, upd_same]
      · rw [upd_ne hb]
        by_cases hba : b = a
        · subst hba; rw [upd_same, upd_same]
        · rw [upd_ne hba, upd_ne hba, upd_ne hb, upd_ne hb]
    show Q .non (upd (upd (upd H dx (exd dx [(f1, y)])) a (exo a C (some dx))) dx (exd dx ((f2, z) :: [(f1, y)])))
    rw [e]
    exact hq dx hd ne
end
/-! ### try -/
/-- a clause: its class, its name's slot, what its suite does with the exception (at a) -/
structure ClD where
  c : Value
  i : Option Nat
  w : Ex → Addr → WS
def clE : Option Nat → EndsD → EndsD
  | none, E => E
  | some i, E => ⟨fun env M => E.nx (env.set i none) M, E.rt, fun env M => E.bk (env.set i none) M, fun env M => E.ct (env.set i none) M⟩
def clEnv : Option Nat → Addr → Env' → Env'
  | none, _, env => env
  | some i, a, env => env.set i (some (.d (.ref a)))
/-- what the clauses do with an exception: the locals are not looked at -/
def wHd (K : PySem.W.Frag) (n : Nat) (E : EndsD) (e : Ex) : List ClD → Prop
  | [] => False
  | q :: l => (PySem.W.exmOne K (.ref e.C) q.c = some true ∧ ∀ a, q.w e a (clE q.i E) (clEnv q.i a (List.replicate n none)) []) ∨ (PySem.W.exmOne K (.ref e.C) q.c = some false ∧ wHd K n E e l)
def sTry (K : PySem.W.Frag) (n : Nat) (l : List ClD) (wb : (Ex → Prop) → WS) : WS := fun E env M => M = [] ∧ ∃ hx : Ex → Prop, (∀ e, hx e → wHd K n E e l) ∧ wb hx E env []
def SuD (X : Cx) (w : Ex → Addr → WS) (b : List Stmt) : Prop := ∀ (a : Addr) (oe : Obj) (cls : Value) (d : Option Addr) (pn : List (Addr × Obj)), Zc cls d oe → (∃ vs, oe.data = .fields vs) →
  ∀ (e : Ex) (Js : Bs) (dd : Addr), cls = .ref e.C → d = some dd → (∃ fv, off Js.H0 Js.S0 dd = some (.xd fv) ∧ FsRep X.K (off Js.H0 Js.S0) e.fs fv) → QSs Js (X.suite a ((a, oe) :: pn)) 0 b (w e a)
def canSu (K : PySem.W.Frag) (w : Ex → Addr → WS) : Addr → Value → Option Addr → TS := fun a cls d D σ H => ∃ (e : Ex) (Js : Bs) (dd : Addr) (E : EndsD) (env : Env') (S : List Addr), cls = .ref e.C ∧ d = some dd ∧ (∃ fv, off Js.H0 Js.S0 dd = some (.xd fv) ∧ FsRep K (off Js.H0 Js.S0) e.fs fv) ∧ w e a E env [] ∧
  Sto K S [] H [] ∧ EnvOk Js K S [] H env σ ∧ EndsOk Js K S [] [] H E D
theorem SuD.ok {X : Cx} {w : Ex → Addr → WS} {b : List Stmt} (h : SuD X w b) : SuOk X b (canSu X.K w) := by
  intro a oe cls d pn hz hv
  refine ⟨fun pins s σ H D I ⟨e, Js, dd, E, env, S, e1, e2, e3, hw, st, en, eo⟩ => ?_⟩
  obtain ⟨ts, ps, dn⟩ := h a oe cls d pn hz hv e Js dd e1 e2 e3
  exact ps.run pins s σ H D I (dn E env [] hw S [] [] σ H D rfl (List.prefix_refl _) st en eo)
inductive ClOkD (X : Cx) : List ExceptHandler → List ClD → Prop
  | nil : ClOkD X [] []
  | bare {x : Str} {c : Value} {w : Ex → Addr → WS} {b : Stmt} {bs : List Stmt} {p1 p2 : Pos} {hds : List ExceptHandler} {l : List ClD} : Names X x c → SuD X w (b :: bs) → ClOkD X hds l → ClOkD X (.ExceptHandler (some (.Name x p1)) none (b :: bs) p2 :: hds) (⟨c, none, w⟩ :: l)
  | named {x n : Str} {i : Nat} {c : Value} {w : Ex → Addr → WS} {b : Stmt} {bs : List Stmt} {p1 p2 : Pos} {hds : List ExceptHandler} {l : List ClD} : Names X x c → X.N[i]? = some n → X.env.kindOf n = some .local → SuD X w (b :: bs) → ClOkD X hds l →
      ClOkD X (.ExceptHandler (some (.Name x p1)) (some n) (b :: bs) p2 :: hds) (⟨c, some i, w⟩ :: l)
def ClD.cl (K : PySem.W.Frag) (q : ClD) : Cl := ⟨q.c, q.i, canSu K q.w⟩
theorem ClOkD.ok {X : Cx} {hds : List ExceptHandler} {l : List ClD} (h : ClOkD X hds l) : ClOk X hds (l.map (ClD.cl X.K)) := by
  induction h with
  | nil => exact .nil
  | bare a b _ ih => exact .bare a b.ok ih
  | named a b c d _ ih => exact .named a b c d.ok ih
section
variable {J : Bs} {K : PySem.W.Frag} {S A : List Addr} {H : Hp} {E : EndsD} {D : Ends}
/-- from a later begin on -/
theorem EndsOk.chg (j : JOk S [] H J) (h : EndsOk J K S [] [] H E D) : EndsOk ⟨S, H⟩ K S [] [] H E D := by
  have up : ∀ {A' : List Addr} {H' : Hp} {env' : Env'} {σ' : L2.St}, EnvOk ⟨S, H⟩ K S A' H' env' σ' → EnvOk J K S A' H' env' σ' := fun en =>
    ⟨⟨j.sub, fun a ha => (en.j.hid a (j.sub a ha)).trans (j.hid a ha), j.view.trans ((off_less fun a ha => by simpa using ha).trans en.j.view)⟩, en.len, en.at_⟩
  exact ⟨fun σ' H' env' M' A' p s e q => h.nx σ' H' env' M' A' p s (up e) q, h.rt, fun σ' H' env' M' A' p s e q => h.bk σ' H' env' M' A' p s (up e) q, fun σ' H' env' M' A' p s e q => h.ct σ' H' env' M' A' p s (up e) q⟩
theorem EnvOk.unset {env : Env'} {σ : L2.St} (h : EnvOk J K S A H env σ) (i : Nat) : EnvOk J K S A H (env.set i none) (σ.set i none) := by
  refine ⟨h.j, by rw [List.length_set, List.length_set]; exact h.len, fun k r e => ?_⟩
  by_cases ik : i = k
  · subst ik
    rw [List.getElem?_set] at e
    simp only [if_true] at e
    split at e <;> cases e
  · rw [List.getElem?_set_ne ik] at e
    obtain ⟨v, e1, e2⟩ := h.at_ k r e
    exact ⟨v, by rw [List.getElem?_set_ne ik]; exact e1, e2⟩
theorem EndsOk.cl {P : List Addr} (h : EndsOk J K S P A H E D) (i : Option Nat) : EndsOk J K S P A H (clE i E) (clEnds i D) := by
  cases i with
  | none => exact h
  | some i => exact ⟨fun σ' H' env' M' A' p s e q => h.nx _ H' _ M' A' p s (e.unset i) q, h.rt, fun σ' H' env' M' A' p s e q => h.bk _ H' _ M' A' p s (e.unset i) q, fun σ' H' env' M' A' p s e q => h.ct _ H' _ M' A' p s (e.unset i) q⟩
theorem nones_ok {n : Nat} {σ : L2.St} (j : JOk S A H J) (hl : σ.length = n) : EnvOk J K S A H (List.replicate n none) σ := ⟨j, by rw [hl, List.length_replicate], fun i r e => by
  rw [List.getElem?_replicate] at e
  split at e <;> cases e⟩
theorem EnvOk.clIn {env : Env'} {σ : L2.St} (h : EnvOk J K S A H env σ) (i : Option Nat) (a : Addr) : EnvOk J K S A H (clEnv i a env) (Dw.clIn i a σ) := by
  cases i with
  | none => exact h
  | some i => exact h.set (show RepV K S A H (.d (.ref a)) (.ref a) from rfl)
end
section
variable {J : Bs} {X : Cx} {body : List Stmt} {h0 : ExceptHandler} {hds : List ExceptHandler} {l : List ClD} {pos : Pos} {wb : (Ex → Prop) → WS} {n : Nat}
def canTb (K : PySem.W.Frag) (n : Nat) (wb : (Ex → Prop) → WS) (W : WX) : TS := fun D σ H => ∃ (Jb : Bs) (hx : Ex → Prop) (E : EndsD) (env : Env') (S : List Addr),
  (∀ e, hx e → ∀ (S A : List Addr) (H : Hp) (cls : Value) (d : Option Addr), JOk S A H Jb → ExRep K (S ++ A) H e cls d → ∀ σ : L2.St, σ.length = n → W cls d σ H) ∧ wb hx E env [] ∧ Sto K S [] H [] ∧ EnvOk Jb K S [] H env σ ∧ EndsOk Jb K S [] [] H E D
theorem qs_try (hs : X.stack = X.env :: X.outer) (hf : X.env.frame = some X.env.locals) (hN : X.N.Nodup) (hn : X.N.length = n)
    (hb : ∀ (Jb : Bs) (hx : Ex → Prop) (pn : List (Addr × Obj)) (xe : Value → Shared → Prop), Lk Jb (X.tr pn xe) hx → PassesOwn (model X.prog X.w) X.A X.env xe → QSs Jb (X.tr pn xe) 0 body (wb hx)) (ok : ClOkD X (h0 :: hds) l) :
    QS J X 0 (.Try body (h0 :: hds) [] [] pos) (sTry X.K n l wb) := by
  refine ⟨_, ps_tryC (tb := canTb X.K n wb) hs hf hN takes_none5 (fun W pn xe tk po => ⟨fun pins s σ H D I ⟨Jb, hx, E, env, S, lk, hw, st, en, eo⟩ => ?_⟩) ok.ok, fun E env M hw S P A σ H D hl hp st en eo => ?_⟩
  · have tk' : Takes (X.tr pn xe) (fun c d _ H => ∀ σ : L2.St, σ.length = n → W c d σ H) := fun u s' ⟨a, B, sI, pins, σ, H, cls, d, e, I, nb, up, sky, na, os, ag, w⟩ => tk u s' ⟨a, B, sI, pins, σ, H, cls, d, e, I, nb, up, sky, na, os, ag, w σ (I.len.trans hn)⟩
    obtain ⟨ts, ps, dn⟩ := hb Jb hx pn xe ⟨_, tk', lk⟩ po
    exact ps.run pins s σ H D I (dn E env [] hw S [] [] σ H D rfl (List.prefix_refl _) st en eo)
  · obtain ⟨rfl, hx, hH, hw⟩ := hw
    obtain rfl : A = [] := List.eq_nil_of_length_eq_zero st.len
    obtain rfl : P = [] := List.eq_nil_of_length_eq_zero hl
    have jb : JOk S [] H ⟨S, H⟩ := ⟨fun _ h => h, fun _ _ => rfl, off_less fun a ha => by simpa using ha⟩
    refine ⟨⟨S, H⟩, hx, E, env, S, fun e he S' A' H' cls d j r σ' hσ => ?_, hw, st, ⟨jb, en.len, en.at_⟩, eo.chg en.j⟩
    obtain ⟨rfl, dd, rfl, nd, fv, hd, hfv⟩ := r
    have vw : Same (view S [] H) (view S [] H') := (off_less fun a ha => by simpa using ha : Same (view S [] H) (off H S)).trans (j.view.trans (off_less fun a ha => List.mem_append_left _ (j.sub a (by simpa using ha))))
    have post : PostS S [] [] H [] H' := ⟨List.prefix_refl _, vw, j.hid⟩
    have pj : Post S [] H [] H' := ⟨List.prefix_refl _, vw, j.hid⟩
    have st' : Sto X.K S [] H' [] := ⟨rfl, by simp, by simp, fun a ha => by obtain ⟨o, eo⟩ := st.trk a ha; exact ⟨o, by rw [j.hid a ha]; exact eo⟩, by simp⟩
    have js : JOk S [] H' ⟨S, H'⟩ := ⟨fun _ h => h, fun _ _ => rfl, off_less fun a ha => by simpa using ha⟩
    have eo' := (eo.on post).chg (en.j.mono pj)
    have go : ∀ l : List ClD, wHd X.K n E e l → wCls X.K (fun _ _ _ _ => False) D (l.map (ClD.cl X.K)) (.ref e.C) (some dd) σ' H' := by
      intro l
      induction l with
      | nil => exact fun h => h
      | cons q l ih =>
        rintro (⟨h1, h2⟩ | ⟨h1, h2⟩)
        · exact .inl ⟨h1, fun a _ => ⟨e, ⟨S, H'⟩, dd, clE q.i E, _, S, rfl, rfl, ⟨fv, off_of (fun z => nd (List.mem_append_left _ (j.sub dd z))) hd, hfv.mono (off_less fun b hb => List.mem_append_left _ (j.sub b hb))⟩, h2 a, st', (nones_ok js hσ).clIn q.i a, eo'.cl q.i⟩⟩
        · exact .inr ⟨h1, ih h2⟩
    exact go l (hH e he)
/-- e.f, e the exception of the suite -/
def wXf (e : Ex) (a : Addr) (f : Str) (we : WE) : WE := fun env M Q => we env M fun r M1 => r = .d (.ref a) ∧ ∃ x, e.fs.lookup f = some x ∧ Q (.d x) M1
theorem qe_xf {a C : Addr} {oe : Obj} {cls : Value} {d : Option Addr} {pn : List (Addr × Obj)} {e : Expr} {we : WE} {pos : Pos} {f : Str} {ex : Ex} {Js : Bs} {dd : Addr} (hC : ex.C = C) (T : XfC X.K C) (hno : PySem.W.findIn X.K (.ref C) f = some none) (hz : Zc cls d oe) (hv : ∃ vs, oe.data = .fields vs) (e1 : cls = .ref ex.C) (e2 : d = some dd)
    (e3 : ∃ fv, off Js.H0 Js.S0 dd = some (.xd fv) ∧ FsRep X.K (off Js.H0 Js.S0) ex.fs fv) (he : QE Js (X.suite a ((a, oe) :: pn)) e we) (hb : attributeBase e f X.env (eval e X.env) = eval e X.env := by rfl) : QE Js (X.suite a ((a, oe) :: pn)) (.Attribute e f pos) (wXf ex a f we) := by
  obtain ⟨te, pe, de⟩ := he
  subst hC
  refine ⟨_, pe_xf T hno hz hv pe hb, fun env M Q hw S A σ H R st en k => ?_⟩
  refine de env M _ hw S A σ H _ st en fun v H1 r M1 A1 p1 s1 q1 ⟨er, x, hl, hq⟩ => ?_
  subst er
  have hq1 : v = .ref a := q1
  obtain ⟨fv, e4, e5⟩ := e3
  obtain ⟨v, l1, l2⟩ := look_vs e5 hl
  exact ⟨hq1, e1, dd, fv, v, e2, (off_some ((en.mono p1).j.view _ _ e4)).2, l1, k _ H1 (.d x) M1 A1 p1 s1 (Rep.mono (en.mono p1).j.view _ _ l2) hq⟩
end
end Dw
set_option Elab.async false
set_option linter.all false
set_option maxRecDepth 100000
set_option maxHeartbeats 4000000
/-! DwO: more of what may change: a group of objects handed on, objects that others name, pop, dicts. -/
namespace Dw
open PySem PySem.Spec PyProof.Rows L2
/-! ### a call with the first n objects -/
def grpOk (n : Nat) : List Rv → Bool
  | [] => true
  | .d _ :: rs => grpOk n rs
  | .o k :: rs => decide (k < n) && grpOk n rs
def grpR (n L : Nat) : Rv → Rv
  | .d x => .d x
  | .o k => if k < n then .o k else .o (k - n + L)
def wCallG (n : Nat) (φ : Ct) (ws : WA) : WE := fun env M Q => ws env M fun rs M1 => (grpOk n rs = true ∧ n ≤ M1.length) ∧ φ rs (M1.take n) fun r M' => n ≤ M'.length ∧ Q (grpR n M1.length r) (M'.take n ++ (M1.drop n ++ M'.drop n))
section
variable {K : PySem.W.Frag} {S A : List Addr} {H : Hp} {M : Mem}
theorem reps_g {n : Nat} : ∀ {rs : List Rv} {vs : List V}, RepVs K S A H rs vs → grpOk n rs = true → ∀ (S' : List Addr), Same (view S A H) (view S' (A.take n) H) → RepVs K S' (A.take n) H rs vs
  | [], _, r, _, _, _ => r
  | .d x :: rs, _, ⟨v, us, e1, e2, e3⟩, g, S', sm => ⟨v, us, e1, Rep.mono sm _ _ e2, reps_g e3 g S' sm⟩
  | .o k :: rs, _, ⟨v, us, e1, ⟨a, e2, e4⟩, e3⟩, g, S', sm => by
    have g' : (decide (k < n) && grpOk n rs) = true := g
    rw [Bool.and_eq_true, decide_eq_true_eq] at g'
    exact ⟨v, us, e1, ⟨a, by rw [List.getElem?_take, if_pos g'.1]; exact e2, e4⟩, reps_g e3 g'.2 S' sm⟩
theorem call_grp {n : Nat} {φ : Ct} {rs : List Rv} {vs : List V} {Q : Qv} {R : VK} {E : XK} (st : Sto K S A H M) (rv : RepVs K S A H rs vs) (g : grpOk n rs = true) (hn : n ≤ M.length)
    (h : φ rs (M.take n) fun r M' => n ≤ M'.length ∧ Q (grpR n M.length r) (M'.take n ++ (M.drop n ++ M'.drop n)))
    (k : ∀ (v : V) (H' : Hp) (r : Rv) (M' : Mem) (A' : List Addr), Post S A H A' H' → Sto K S A' H' M' → RepV K S A' H' r v → Q r M' → R v H') : spD K φ vs H R E := by
  have hA : n ≤ A.length := by rw [st.len]; exact hn
  have eqm : ∀ b, b ∈ (S ++ A.drop n) ++ A.take n ↔ b ∈ S ++ A := fun b => by
    have := List.take_append_drop n A
    constructor
    · intro hb
      rcases List.mem_append.mp hb with hb | hb
      · rcases List.mem_append.mp hb with hb | hb
        · exact List.mem_append_left _ hb
        · exact List.mem_append_right _ (List.mem_of_mem_drop hb)
      · exact List.mem_append_right _ (List.mem_of_mem_take hb)
    · intro hb
      rcases List.mem_append.mp hb with hb | hb
      · exact List.mem_append_left _ (List.mem_append_left _ hb)
      · rw [← this] at hb
        rcases List.mem_append.mp hb with hb | hb
        · exact List.mem_append_right _ hb
        · exact List.mem_append_left _ (List.mem_append_right _ hb)
  have sm : Same (view S A H) (view (S ++ A.drop n) (A.take n) H) := off_less fun b hb => (eqm b).mp hb
  have ndA := st.nd
  rw [← List.take_append_drop n A, List.nodup_append] at ndA
  refine ⟨S ++ A.drop n, A.take n, M.take n, rs, _, ⟨by simp [st.len], ndA.1, fun b hb z => ?_, fun b hb => st.trk' b ((eqm b).mp (List.mem_append_left _ hb)), fun i m b h1 h2 => ?_⟩, reps_g rv g _ sm, h, fun r M' hq v H' A' pre vw hid s' rv' => ?_⟩
  · rcases List.mem_append.mp z with z | z
    · exact st.dj b (List.mem_of_mem_take hb) z
    · exact ndA.2.2 b hb b z rfl
  · rw [List.getElem?_take] at h1 h2
    split at h1
    · rename_i hi
      rw [if_pos hi] at h2
      exact (st.mem i m b h1 h2).to rfl sm
    · cases h1
  obtain ⟨hn', hq⟩ := hq
  obtain ⟨A2, rfl⟩ := pre
  have hl0 : (A.take n).length = n := by rw [List.length_take, Nat.min_eq_left hA]
  have v2 : Same (view (S ++ A.drop n) (A.take n ++ A2) H') (view S (A ++ A2) H') := off_less fun b hb => by
    rw [← List.append_assoc] at hb ⊢
    rcases List.mem_append.mp hb with hb | hb
    · exact List.mem_append_left _ ((eqm b).mpr hb)
    · exact List.mem_append_right _ hb
  have v1 : Same (view S A H) (view S (A ++ A2) H') := (sm.trans vw).trans v2
  have p : Post S A H (A ++ A2) H' := ⟨List.prefix_append _ _, v1, fun b hb => hid b (List.mem_append_left _ hb)⟩
  have nd' := s'.nd
  rw [List.nodup_append] at nd'
  have hlen := s'.len
  rw [List.length_append, hl0] at hlen
  have nA : ∀ b ∈ A2, b ∉ S ++ A := fun b hb z => by
    rcases List.mem_append.mp ((eqm b).mpr z) with z | z
    · exact s'.dj b (List.mem_append_right _ hb) z
    · exact nd'.2.2 b z b hb rfl
  have hML : A.length = M.length := st.len
  refine k v H' (grpR n M.length r) (M'.take n ++ (M.drop n ++ M'.drop n)) (A ++ A2) p ⟨?_, ?_, fun b hb => ?_, fun b hb => ?_, fun i m b h1 h2 => ?_⟩ ?_ hq
  · simp only [List.length_append,List.length_take,List.length_drop]; omega
  · rw [List.nodup_append]
    exact ⟨st.nd, nd'.2.1, fun b hb c hc e => nA c hc (List.mem_append_right _ (e ▸ hb))⟩
  · rcases List.mem_append.mp hb with hb | hb
    · exact st.dj b hb
    · exact fun z => nA b hb (List.mem_append_left _ z)
  · obtain ⟨o, eo⟩ := st.trk b hb
    exact ⟨o, by rw [hid b (List.mem_append_left _ hb)]; exact eo⟩
  · have hl1 : (M'.take n).length = n := by rw [List.length_take]; omega
    have hl2 : (M.drop n).length = M.length - n := List.length_drop
    by_cases hi : i < n
    · rw [List.getElem?_append_left (by omega), List.getElem?_take, if_pos hi] at h1
      rw [List.getElem?_append_left (by omega)] at h2
      refine (s'.mem i m b h1 ?_).to rfl v2
      rw [List.getElem?_append_left (by omega), List.getElem?_take, if_pos hi]; exact h2
    · rw [List.getElem?_append_right (by omega), hl1] at h1
      by_cases hj : i < A.length
      · rw [List.getElem?_append_left (by omega), List.getElem?_drop] at h1
        rw [List.getElem?_append_left hj] at h2
        refine (st.mem i m b (by rw [← h1]; congr 1; omega) h2).to (hid b (List.mem_append_right _ ?_)) v1
        refine List.mem_of_getElem? (i := i - n) ?_
        rw [List.getElem?_drop, ← h2]; congr 1; omega
      · rw [List.getElem?_append_right (by omega), hl2, List.getElem?_drop] at h1
        rw [List.getElem?_append_right (by omega)] at h2
        refine (s'.mem (n + (i - n - (M.length - n))) m b h1 ?_).to rfl v2
        rw [List.getElem?_append_right (by omega), hl0, ← h2]; congr 1; omega
  · cases r with
    | d x => exact Rep.mono v2 _ _ rv'
    | o i =>
      obtain ⟨b, eb, rfl⟩ := rv'
      show RepV K S (A ++ A2) H' (if i < n then .o i else .o (i - n + M.length)) (.ref b)
      by_cases hi : i < n
      · rw [if_pos hi]
        rw [List.getElem?_append_left (by omega), List.getElem?_take, if_pos hi] at eb
        exact ⟨b, by rw [List.getElem?_append_left (by omega)]; exact eb, rfl⟩
      · rw [if_neg hi]
        rw [List.getElem?_append_right (by omega), hl0] at eb
        exact ⟨b, by rw [List.getElem?_append_right (by omega), ← eb]; congr 1; omega, rfl⟩
end
section
variable {J : Bs} {X : Cx} {k : Nat} {f : Addr} {fd : FuncData} {ps : List Str} {φ : Ct} {x : Str} {p pos apos : Pos} {e o i : Expr} {es : List Expr} {ws wk : WA} {kws : List Keyword} {we wo wi : WE}
theorem qe_callG (n : Nat) (F : FnOk X.prog X.w X.K X.mg X.base CX0 k f fd ps (spD X.K φ)) (hr : Room k X.A) (hg : Gl X x) (hm : X.mg x = some (.ref f)) (hk : PySem.W.keepIn X.K (.ref f) = true) (hb : Binds X.K fd ps [])
    (ha : QA J X (e :: es) ws) (hdb : (x == ("__debug__" : Str)) = false := by decide) (he : starEach (e :: es) X.env = (false, eval e X.env) :: starEach es X.env := by rfl) (hpl : (backTo pos (starEach es X.env)).any (·.1) = false := by rfl) :
    QE J X (.Call (.Name x p) (e :: es) [] pos) (wCallG n φ ws) := by
  obtain ⟨ta, pa, da⟩ := ha
  refine ⟨_, pe_call F hr hg hm hk hb .nil pass0 pa hdb he hpl, fun env M Q hw S A σ H R st en k => ?_⟩
  refine da env M _ hw S A σ H _ st en fun vs H1 rs M1 A1 p1 s1 q1 ⟨⟨g, hn⟩, h⟩ => ?_
  rw [List.append_nil]
  exact call_grp s1 q1 g hn h fun v H' r M' A' p s q hq => k v H' r M' A' (p1.trans p) s q hq
/-! ### objects that others name -/
/-- its address, as data -/
def wRaw (we : WE) : WE := fun env M Q => we env M fun r M1 => ∃ k, r = .o k ∧ ∃ mo, M1[k]? = some mo ∧ ((∃ ds, mo = .lst ds) ∨ ∃ ks, mo = .dic ks) ∧ ∀ a, Q (.d (.ref a)) (M1.set k (mo.raw a))
theorem Sto.setM {K : PySem.W.Frag} {S A : List Addr} {H : Hp} {M : Mem} (s : Sto K S A H M) {k : Nat} {a : Addr} {mo : MO} (hk : A[k]? = some a) (q : MOk K S A H a mo) : Sto K S A H (M.set k mo) := by
  refine ⟨by rw [List.length_set]; exact s.len, s.nd, s.dj, s.trk, fun j m b h1 h2 => ?_⟩
  by_cases hj : j = k
  · subst hj
    rw [hk] at h2; cases h2
    rw [List.getElem?_set] at h1
    simp only [if_true] at h1
    split at h1
    · cases h1; exact q
    · cases h1
  · rw [List.getElem?_set_ne (Ne.symm hj)] at h1
    exact s.mem j m b h1 h2
theorem qe_raw (h : QE J X e we) : QE J X e (wRaw we) := by
  obtain ⟨te, pe, de⟩ := h
  refine ⟨te, pe, fun env M Q hw S A σ H R st en k => ?_⟩
  refine de env M _ hw S A σ H _ st en fun v H1 r M1 A1 p1 s1 q1 ⟨i, e1, mo, e2, _, hq⟩ => ?_
  subst e1
  obtain ⟨a, ha, rfl⟩ := q1
  exact k _ H1 (.d (.ref a)) _ A1 p1 (s1.setM ha (s1.mem i mo a e2 ha).raw) (show V.ref a = V.ref a from rfl) (hq a)
def MO.ad : MO → Option Addr
  | .la a _ => some a
  | .da a _ => some a
  | _ => none
theorem MOk.ad {K : PySem.W.Frag} {S A : List Addr} {H : Hp} {a b : Addr} {mo : MO} (h : MOk K S A H a mo) (e : mo.ad = some b) : a = b := by
  cases mo <;> cases e <;> exact h.2
/-- an address, as the k-th object -/
def wObj (k : Nat) (we : WE) : WE := fun env M Q => we env M fun r M1 => ∃ a, r = .d (.ref a) ∧ ∃ mo, M1[k]? = some mo ∧ mo.ad = some a ∧ Q (.o k) M1
theorem qe_obj (i : Nat) (h : QE J X e we) : QE J X e (wObj i we) := by
  obtain ⟨te, pe, de⟩ := h
  refine ⟨te, pe, fun env M Q hw S A σ H R st en k => ?_⟩
  refine de env M _ hw S A σ H _ st en fun v H1 r M1 A1 p1 s1 q1 ⟨a, e1, mo, e2, e3, hq⟩ => ?_
  subst e1
  have ev : v = .ref a := q1
  subst ev
  have hi : i < A1.length := by rw [s1.len]; exact (List.getElem?_eq_some_iff.mp e2).1
  have ea := (s1.mem i mo _ e2 (List.getElem?_eq_getElem hi)).ad e3
  exact k _ H1 (.o i) M1 A1 p1 s1 ⟨a, by rw [List.getElem?_eq_getElem hi, ea], rfl⟩ hq
/-! ### pop -/
def wPop (wo : WE) : WE := fun env M Q => wo env M fun o M1 => ∃ k, o = .o k ∧ ∃ mo, M1[k]? = some mo ∧ ∃ ds, mo.ls = some ds ∧ ∃ d, ds.getLast? = some d ∧ Q (.d d) (M1.set k (mo.put ds.dropLast))
theorem Reps.dropLast {K : PySem.W.Frag} {h : Hp} {ds : List D} {vs : List V} (r : Reps K h ds vs) : Reps K h ds.dropLast vs.dropLast := by
  rw [List.dropLast_eq_take, List.dropLast_eq_take, r.len]
  exact r.take _
theorem qe_pop (ho : QE J X o wo) (hbase : attributeBase o "pop" X.env (eval o X.env) = eval o X.env := by rfl) (hline : (apos.endLine == pos.line) = true := by rfl) : QE J X (.Call (.Attribute o "pop" apos) [] [] pos) (wPop wo) := by
  obtain ⟨to, po, do_⟩ := ho
  refine ⟨_, pe_bm0 PySem.F.plainAttrs_list PySem.F.slot_list_pop PySem.F.type_list_pop mt_pop po hbase hline, fun env M Q hw S A σ H R st en k => ?_⟩
  refine do_ env M _ hw S A σ H _ st en fun v H1 o1 M1 A1 p1 s1 q1 ⟨i, e1, mo, e2, ds, e3, d, e4, hq⟩ => ?_
  subst e1
  obtain ⟨x, hx, rfl⟩ := q1
  obtain ⟨vs, g1, g2⟩ := (s1.mem i _ x e2 hx).lsD e3
  rw [List.getLast?_eq_getElem?] at e4
  obtain ⟨y, e5, ry⟩ := g2.get e4
  refine ⟨.inl ⟨rfl, vs, .inl (.inl g1)⟩, x, vs, y, rfl, rfl, g1, by rw [g2.len]; exact e5, ?_⟩
  obtain ⟨s4, p4⟩ := s1.set (o := .lst vs.dropLast) (mo := mo.put ds.dropLast) hx ((s1.mem i _ x e2 hx).put e3 upd_same (by rw [view_set (List.mem_of_getElem? hx)]; exact g2.dropLast))
  exact k y _ (.d d) _ A1 (p1.trans p4) s4 (by show Rep _ (view _ _ _) _ _; rw [view_set (List.mem_of_getElem? hx)]; exact ry) hq
end
/-! ### dicts that change -/
def keyD : D → Option Key
  | .int i => some (.inl i)
  | .str x => some (.inr x)
  | _ => none
def dGetK (kvs : List (Key × D)) (k : Key) : Option D := (kvs.find? fun kv => decide (kv.1 = k)).map (·.2)
def dPutK (kvs : List (Key × D)) (k : Key) (d : D) : List (Key × D) := if (dGetK kvs k).isSome = true then kvs.map (fun kv => if kv.1 = k then (kv.1, d) else kv) else kvs ++ [(k, d)]
section
variable {K : PySem.W.Frag} {h : Hp}
theorem keyD_rep {q : D} {key : Key} {v : V} (e : keyD q = some key) (r : Rep K h q v) : v = kV key := by
  cases q <;> cases e <;> exact r
theorem RepD.nil_iff {us : List (Key × V)} (r : RepD K h [] us) : us = [] := by
  cases us with
  | nil => rfl
  | cons => exact absurd r.1 (by simp)
theorem RepD.cons_inv {k : Key} {d : D} {kvs : List (Key × D)} {us : List (Key × V)} (r : RepD K h ((k, d) :: kvs) us) : ∃ v us', us = (k, v) :: us' ∧ Rep K h d v ∧ RepD K h kvs us' := by
  cases us with
  | nil => exact absurd r.1 (by simp)
  | cons u us =>
    obtain ⟨r1, r2⟩ := r
    simp at r1
    obtain ⟨v, ws, e1, e2, e3⟩ := r2
    simp at e1
    obtain ⟨u1, u2⟩ := u
    obtain ⟨rfl, r1⟩ := r1
    obtain ⟨rfl, rfl⟩ := e1
    exact ⟨u2, us, rfl, e2, r1, e3⟩
theorem RepD.cons {k : Key} {d : D} {v : V} {kvs : List (Key × D)} {us : List (Key × V)} (r : Rep K h d v) (q : RepD K h kvs us) : RepD K h ((k, d) :: kvs) ((k, v) :: us) :=
  ⟨by simp [q.1], v, _, rfl, r, q.2⟩
theorem RepD.len {kvs : List (Key × D)} {us : List (Key × V)} (r : RepD K h kvs us) : us.length = kvs.length := by
  have := congrArg List.length r.1
  simpa using this
theorem RepD.get (key : Key) : ∀ {kvs : List (Key × D)} {us : List (Key × V)}, RepD K h kvs us → (dGetK kvs key = none ∧ valV us key = none) ∨ ∃ d v, dGetK kvs key = some d ∧ valV us key = some v ∧ Rep K h d v
  | [], us, r => by cases r.nil_iff; exact .inl ⟨rfl, rfl⟩
  | (k, d) :: kvs, us, r => by
    obtain ⟨v, us', rfl, r1, r2⟩ := r.cons_inv
    by_cases e : k = key
    · exact .inr ⟨d, v, by simp [dGetK, List.find?_cons, e], valV_pos e, r1⟩
    · rw [valV_neg (show ¬ (k, v).1 = key from e), show dGetK ((k, d) :: kvs) key = dGetK kvs key by simp [dGetK, List.find?_cons, e]]
      exact RepD.get key r2
theorem RepD.map (key : Key) {d : D} {v : V} (rv : Rep K h d v) : ∀ {kvs : List (Key × D)} {us : List (Key × V)}, RepD K h kvs us → RepD K h (kvs.map fun kv => if kv.1 = key then (kv.1, d) else kv) (us.map fun kv => if kv.1 = key then (kv.1, v) else kv)
  | [], us, r => by cases r.nil_iff; exact r
  | (k, d1) :: kvs, us, r => by
    obtain ⟨v1, us', rfl, r1, r2⟩ := r.cons_inv
    have ih := RepD.map key rv r2
    rw [List.map_cons, List.map_cons]
    by_cases e : k = key
    · rw [if_pos e, if_pos e]; exact .cons rv ih
    · rw [if_neg e, if_neg e]; exact .cons r1 ih
theorem RepD.put (key : Key) {d : D} {v : V} (rv : Rep K h d v) {kvs : List (Key × D)} {us : List (Key × V)} (r : RepD K h kvs us) : RepD K h (dPutK kvs key d) (putK us key v) := by
  unfold dPutK putK
  rw [valV_any]
  rcases r.get key with ⟨e1, e2⟩ | ⟨d0, v0, e1, e2, _⟩
  · rw [e1, e2, if_neg (by simp), if_neg (by simp)]
    exact ⟨by simp [r.1], by rw [List.map_append, List.map_append]; exact Reps.app r.2 (Reps.one rv)⟩
  · rw [e1, e2, if_pos (show (some d0).isSome = true from rfl), if_pos (show (some v0).isSome = true from rfl)]
    exact r.map key rv
end
def wDIn (neg : Bool) (wk wd : WE) : WE := fun env M Q => wk env M fun y M1 => wd env M1 fun x M2 => ∃ q, y = .d q ∧ ∃ key, keyD q = some key ∧ ∃ j, x = .o j ∧ ∃ mo, M2[j]? = some mo ∧ ∃ kvs, mo.dc = some kvs ∧ Q (.d (.bl (neg ^^ (dGetK kvs key).isSome))) M2
def wDGet (wd wk : WE) : WE := fun env M Q => wd env M fun x M1 => wk env M1 fun y M2 => ∃ q, y = .d q ∧ ∃ key, keyD q = some key ∧ ∃ j, x = .o j ∧ ∃ mo, M2[j]? = some mo ∧ ∃ kvs, mo.dc = some kvs ∧ ∃ d, dGetK kvs key = some d ∧ Q (.d d) M2
def wDNew : WE := fun _ M Q => Q (.o M.length) (M ++ [.dic []])
def sDPutD (wd wk wv : WE) : WS := fun E env M => wv env M fun r M1 => wd env M1 fun x M2 => wk env M2 fun y M3 => ∃ d, r = .d d ∧ ∃ q, y = .d q ∧ ∃ key, keyD q = some key ∧ ∃ j, x = .o j ∧ ∃ mo, M3[j]? = some mo ∧ ∃ kvs, mo.dc = some kvs ∧ kvs.length < sizeLine ∧ E.nx env (M3.set j (mo.dput (dPutK kvs key d)))
section
variable {J : Bs} {X : Cx} {n0 : Nat} {pos : Pos} {o i e : Expr} {wk wd wv : WE}
theorem qe_dnew : QE J X (.Dict [] [] pos) wDNew := by
  refine ⟨_, pe_dnewK, fun env M Q hw S A σ H R st en k => ?_⟩
  intro p hp
  obtain ⟨s4, p4⟩ := st.new (o := .dK []) (mo := .dic []) hp ⟨[], upd_same, rfl, rfl⟩
  exact k _ _ (.o M.length) _ _ p4 s4 ⟨p, by rw [← st.len]; simp, rfl⟩ hw
theorem dn_din {tk td : TE} (dk : Dn J X.K tk wk) (dd : Dn J X.K td wd) : Dn J X.K (tDIn tk td) (wDIn false wk wd) := by
  intro env M Q hw S A σ H R st en k
  refine dk env M _ hw S A σ H _ st en fun v1 H1 r1 M1 A1 p1 s1 q1 hw1 => ?_
  refine dd env M1 _ hw1 S A1 σ H1 _ s1 (en.mono p1) fun v2 H2 r2 M2 A2 p2 s2 q2 ⟨q, e1, key, e2, j, e3, mo, e4, kvs, e5, hq⟩ => ?_
  subst e1 e3
  obtain ⟨a, ha, rfl⟩ := q2
  obtain ⟨us, g1, g2⟩ := (s2.mem j mo a e4 ha).dcD e5
  rw [keyD_rep e2 q1]
  refine ⟨a, _, rfl, .k g1, ?_⟩
  refine k _ H2 _ M2 A2 (p1.trans p2) s2 ?_ hq
  rcases g2.get key with ⟨e6, e7⟩ | ⟨_, _, e6, e7, _⟩ <;> (rw [e6, e7]; rfl)
theorem qe_din (hu : X.A.units + 64 < cLine) (hi : QE J X i wk) (ho : QE J X o wd) (h1 : behindInMarks .In o = false := by first | exact nobehind _ (by decide) (by decide) | rfl) : QE J X (.Compare i [.In] [o] pos) (wDIn false wk wd) := by
  obtain ⟨tk, pk, dk⟩ := hi
  obtain ⟨td, pd, dd⟩ := ho
  exact ⟨_, pe_cmp (pc_din (by omega) pk pd) h1, dn_din dk dd⟩
theorem qt_din (hu : X.A.units + 64 < cLine) (hi : QE J X i wk) (ho : QE J X o wd) (h1 : behindInMarks .In o = false := by first | exact nobehind _ (by decide) (by decide) | rfl) : QT J X (.Compare i [.In] [o] pos) (wTb (wDIn false wk wd)) := by
  obtain ⟨tk, pk, dk⟩ := hi
  obtain ⟨td, pd, dd⟩ := ho
  exact ⟨_, pt_cmp (pc_din (by omega) pk pd) h1, dn_tb (dn_din dk dd)⟩
theorem dn_dnin {tk td : TE} (dk : Dn J X.K tk wk) (dd : Dn J X.K td wd) : Dn J X.K (tDNotIn tk td) (wDIn true wk wd) := by
  intro env M Q hw S A σ H R st en k
  refine dk env M _ hw S A σ H _ st en fun v1 H1 r1 M1 A1 p1 s1 q1 hw1 => ?_
  refine dd env M1 _ hw1 S A1 σ H1 _ s1 (en.mono p1) fun v2 H2 r2 M2 A2 p2 s2 q2 ⟨q, e1, key, e2, j, e3, mo, e4, kvs, e5, hq⟩ => ?_
  subst e1 e3
  obtain ⟨a, ha, rfl⟩ := q2
  obtain ⟨us, g1, g2⟩ := (s2.mem j mo a e4 ha).dcD e5
  rw [keyD_rep e2 q1]
  refine ⟨a, _, rfl, .k g1, ?_⟩
  refine k _ H2 _ M2 A2 (p1.trans p2) s2 ?_ hq
  rcases g2.get key with ⟨e6, e7⟩ | ⟨_, _, e6, e7, _⟩ <;> (rw [e6, e7]; rfl)
theorem qe_dnin (hu : X.A.units + 64 < cLine) (hi : QE J X i wk) (ho : QE J X o wd) (h1 : behindInMarks .NotIn o = false := by first | exact nobehind _ (by decide) (by decide) | rfl) : QE J X (.Compare i [.NotIn] [o] pos) (wDIn true wk wd) := by
  obtain ⟨tk, pk, dk⟩ := hi
  obtain ⟨td, pd, dd⟩ := ho
  exact ⟨_, pe_cmp (pc_dnotin (by omega) pk pd) h1, dn_dnin dk dd⟩
theorem qt_dnin (hu : X.A.units + 64 < cLine) (hi : QE J X i wk) (ho : QE J X o wd) (h1 : behindInMarks .NotIn o = false := by first | exact nobehind _ (by decide) (by decide) | rfl) : QT J X (.Compare i [.NotIn] [o] pos) (wTb (wDIn true wk wd)) := by
  obtain ⟨tk, pk, dk⟩ := hi
  obtain ⟨td, pd, dd⟩ := ho
  exact ⟨_, pt_cmp (pc_dnotin (by omega) pk pd) h1, dn_tb (dn_dnin dk dd)⟩
theorem qe_dget (hu : X.A.units + 64 < cLine) (ho : QE J X o wd) (hi : QE J X i wk) (hs : NoSl i := by intro _ _; rfl) : QE J X (.Subscript o i pos) (wDGet wd wk) := by
  obtain ⟨tk, pk, dk⟩ := hi
  obtain ⟨td, pd, dd⟩ := ho
  refine ⟨_, pe_dget (by omega) pd pk hs, fun env M Q hw S A σ H R st en k => ?_⟩
  refine dd env M _ hw S A σ H _ st en fun v1 H1 r1 M1 A1 p1 s1 q1 hw1 => ?_
  refine dk env M1 _ hw1 S A1 σ H1 _ s1 (en.mono p1) fun v2 H2 r2 M2 A2 p2 s2 q2 ⟨q, e1, key, e2, j, e3, mo, e4, kvs, e5, d, e6, hq⟩ => ?_
  subst e1 e3
  obtain ⟨a, ha, rfl⟩ := q1.mono p2
  obtain ⟨us, g1, g2⟩ := (s2.mem j mo a e4 ha).dcD e5
  rw [keyD_rep e2 q2]
  rcases g2.get key with ⟨e7, _⟩ | ⟨d', v, e7, e8, rv⟩
  · rw [e6] at e7; cases e7
  · rw [e6] at e7; cases e7
    exact ⟨a, v, rfl, e8 ▸ .k g1, k v H2 (.d d) M2 A2 (p1.trans p2) s2 rv hq⟩
theorem qs_dput (hu : X.A.units + 64 < cLine) (ho : QE J X o wd) (hi : QE J X i wk) (hv : QE J X e wv) (hs : swapsWith e (some (.Subscript o i pos')) pos.line X.env = pure false := by rfl) : QS J X n0 (.Assign [.Subscript o i pos'] e pos) (sDPutD wd wk wv) := by
  obtain ⟨tk, pk, dk⟩ := hi
  obtain ⟨td, pd, dd⟩ := ho
  obtain ⟨tv, pv, dv⟩ := hv
  refine ⟨_, ps_dput (by omega) pd pk pv hs, fun E env M hw S P A σ H D hn hp st en eo => ?_⟩
  refine dv env M _ hw S A σ H _ st en fun v0 H0 r0 M0 A0 p0 s0 q0 hw0 => ?_
  refine dd env M0 _ hw0 S A0 σ H0 _ s0 (en.mono p0) fun v1 H1 r1 M1 A1 p1 s1 q1 hw1 => ?_
  refine dk env M1 _ hw1 S A1 σ H1 _ s1 ((en.mono p0).mono p1) fun v2 H2 r2 M2 A2 p2 s2 q2 ⟨d, e0, q, e1, key, e2, j, e3, mo, e4, kvs, e5, hz, hq⟩ => ?_
  subst e0 e1 e3
  obtain ⟨a, ha, rfl⟩ := q1.mono p2
  obtain ⟨us, g1, g2⟩ := (s2.mem j mo a e4 ha).dcD e5
  have rd : Rep X.K (view S A2 H2) d v0 := q0.mono (p1.trans p2)
  rw [keyD_rep e2 q2]
  refine ⟨a, _, rfl, .k g1 (by rw [g2.len]; exact hz), ?_⟩
  obtain ⟨s4, p4⟩ := s2.set (o := .dK (putK us key v0)) (mo := mo.dput (dPutK kvs key d)) ha ((s2.mem j mo a e4 ha).dput e5 upd_same (by rw [view_set (List.mem_of_getElem? ha)]; exact g2.put key rd))
  have pp := ((p0.trans p1).trans p2).trans p4
  exact eo.nx σ _ env _ A2 (pp.s hp) s4 (en.mono pp) hq
end
/-! ### a def whose objects all go back to its caller -/
def endsAll (R : Rv → Mem → Prop) : EndsD := ⟨fun _ M => R (.d .non) M, R, fun _ _ => False, fun _ _ => False⟩
section
variable {K : PySem.W.Frag} {P : Program} {w : World} {mg : Str → Option Value} {base : Heap} {x qual : Str} {params : Arguments} {body : List Stmt} {scope : Scope} {f : Addr} {fd : FuncData}
theorem fnA {N ps : List Str} {k n0 : Nat} {φ : Ct} (F : FunD K x qual params body scope [] [] f fd) (Sc : FnScope N ps scope) (hl : ∀ rs M R, φ rs M R → rs.length = ps.length ∧ M.length = n0)
    (hbody : ∀ (cdv : Value) (A : Around) (outer : List Env) (s : Shared) (H : Hp) (E : XK), Room k (A.deeper (envOfC qual scope s.heap.objs.size f cdv)) →
      ∃ ws, QSs J0 (cxOf CX0 P w K mg base N qual scope f cdv A outer s H E).nox n0 body ws ∧ ∀ rs M R, φ rs M R → ws (endsAll R) (startE N rs) M) : FnOk P w K mg base CX0 (k + 1) f fd ps (spD K φ) := by
  refine F.ok Sc (fun vs H Q E h => ?_) fun cdv Ar outer s H vs Q E hr h => ?_
  · obtain ⟨S, A, M, rs, R, st, rv, hφ, _⟩ := h
    rw [rv.len]; exact (hl _ _ _ hφ).1
  · obtain ⟨S, A, M, rs, R, st, rv, hφ, kk⟩ := h
    obtain ⟨ws, ⟨ts, pss, dn⟩, rd⟩ := hbody cdv Ar outer s H E hr
    have hn : A.length = n0 := by rw [st.len]; exact (hl _ _ _ hφ).2
    refine ⟨ts, pss.nox, dn _ _ _ (rd rs M R hφ) S A A (L2.start N vs) H _ hn (List.prefix_refl _) st (start_ok j0_ok rv) ?_⟩
    exact ⟨fun σ' H' env' M' A' p s' _ q => kk _ _ q .non H' A' p.pre p.view p.hid s' (show V.non = V.non from rfl), fun v H' r M' A' p s' rv' q => kk r M' q v H' A' p.pre p.view p.hid s' rv', fun _ _ _ _ _ _ _ _ q => q.elim, fun _ _ _ _ _ _ _ _ q => q.elim⟩
end
/-! ### extend, pop at a place, insert -/
/-- xs.extend(ys), ys a list of data just made -/
def wExt (wo we : WE) : WE := fun env M Q => wo env M fun o M1 => ∃ k, o = .o k ∧ (∃ mo0, M1[k]? = some mo0 ∧ ∃ ds0, mo0.ls = some ds0) ∧ we env M1 fun r M2 => ∃ mo, M2[k]? = some mo ∧ ∃ ds, mo.ls = some ds ∧ ∃ j, r = .o j ∧ ∃ m2, M2[j]? = some m2 ∧ ∃ es, m2.ls = some es ∧ ds.length + es.length ≤ sizeLine ∧ Q (.d .non) (M2.set k (mo.put (ds ++ es)))
def wPopAt (wo we : WE) : WE := fun env M Q => wo env M fun o M1 => ∃ k, o = .o k ∧ (∃ mo0, M1[k]? = some mo0 ∧ ∃ ds0, mo0.ls = some ds0) ∧ we env M1 fun r M2 => ∃ mo, M2[k]? = some mo ∧ ∃ ds, mo.ls = some ds ∧ ∃ i, r = .d (.int i) ∧ ds.length ≤ sizeLine ∧ ∃ j, ixN ds.length i = some j ∧ ∃ d, ds[j]? = some d ∧ Q (.d d) (M2.set k (mo.put (ds.eraseIdx j)))
theorem Reps.eraseIdx {K : PySem.W.Frag} {h : Hp} {ds : List D} {vs : List V} (r : Reps K h ds vs) (j : Nat) : Reps K h (ds.eraseIdx j) (vs.eraseIdx j) := by
  rw [List.eraseIdx_eq_take_drop_succ, List.eraseIdx_eq_take_drop_succ]
  exact Reps.app (r.take j) (r.drop (j + 1))
section
variable {J : Bs} {X : Cx} {pos apos : Pos} {o e : Expr} {wo we : WE}
theorem qe_popAt (ho : QE J X o wo) (he : QE J X e we) (hbase : attributeBase o "pop" X.env (eval o X.env) = eval o X.env := by rfl)
    (hfew : ((backTo pos (starEach [e] X.env)).all (fun x => !x.1) && (backToKw pos (keywordEach [] X.env)).all (fun x => x.1.isSome)
      && decide (([e] : List Expr).length + ([] : List Keyword).length + (if ([] : List Keyword).isEmpty then 0 else 1) < 30)) = true := by rfl)
    (hline : (apos.endLine == pos.line) = true := by rfl) (hs : starEach [e] X.env = (false, eval e X.env) :: starEach [] X.env := by rfl) (hplain : (backTo pos (starEach [] X.env)).any (·.1) = false := by rfl) :
    QE J X (.Call (.Attribute o "pop" apos) [e] [] pos) (wPopAt wo we) := by
  obtain ⟨to, po, do_⟩ := ho
  obtain ⟨te, pe, de⟩ := he
  refine ⟨_, pe_bm PySem.F.plainAttrs_list PySem.F.slot_list_pop PySem.F.type_list_pop mt_popAt po (pa_cons pe pa_nil hs) hbase hfew hline hs hplain, fun env M Q hw S A σ H R st en k => ?_⟩
  refine do_ env M _ hw S A σ H _ st en fun v H1 o1 M1 A1 p1 s1 q1 ⟨i, e1, ⟨mo0, e2, ds0, e2'⟩, hw1⟩ => ?_
  subst e1
  obtain ⟨x, hx, rfl⟩ := q1
  obtain ⟨vs0, g0, _⟩ := (s1.mem i _ x e2 hx).lsD e2'
  refine ⟨.inl ⟨rfl, vs0, .inl (.inl g0)⟩, ?_⟩
  refine de env M1 _ hw1 S A1 σ H1 _ s1 (en.mono p1) fun u H2 r M2 A2 p2 s2 q2 ⟨mo, e3, ds, e3', ix, e4, hz, j, e5, d, e6, hq⟩ => ?_
  subst e4
  have eu : u = .int ix := q2
  subst eu
  have hx2 : A2[i]? = some x := by
    obtain ⟨t, ht⟩ := p2.pre
    rw [← ht, List.getElem?_append_left (List.getElem?_eq_some_iff.mp hx).1]
    exact hx
  obtain ⟨vs, g1, g2⟩ := (s2.mem i _ x e3 hx2).lsD e3'
  obtain ⟨y, e7, ry⟩ := g2.get e6
  obtain ⟨h1, h2, h3, h4⟩ := ixN_seq e5
  have hzz : ds.length < 2 ^ 63 := Nat.lt_of_le_of_lt hz (by rw [sizeLine_eq]; decide)
  refine ⟨x, vs, ix, j, y, rfl, rfl, g1, by omega, by omega, by rw [g2.len]; exact h1, e7, ?_⟩
  obtain ⟨s4, p4⟩ := s2.set (o := .lst (vs.eraseIdx j)) (mo := mo.put (ds.eraseIdx j)) hx2 ((s2.mem i _ x e3 hx2).put e3' upd_same (by rw [view_set (List.mem_of_getElem? hx2)]; exact g2.eraseIdx j))
  exact k y _ (.d d) _ A2 ((p1.trans p2).trans p4) s4 (by show Rep _ (view _ _ _) _ _; rw [view_set (List.mem_of_getElem? hx2)]; exact ry) hq
end
end Dw
set_option Elab.async false
set_option linter.all false
set_option maxRecDepth 100000
set_option maxHeartbeats 4000000
/-! DwP: more operators, builtins, targets. -/
namespace Dw
open PySem PySem.Spec PyProof.Rows L2
section
variable {J : Bs} {X : Cx} {K : PySem.W.Frag} {n0 : Nat} {a b e o i : Expr} {wa wb we wo wi : WE} {ws : WA} {pos p : Pos}
/-! ### << and >> -/
def dShl : D → D → Option D := dI2 (fun i j => decide (CPow i j)) fun i j => .int (i * 2 ^ j.toNat)
theorem qe_shl (ha : QE J X a wa) (hb : QE J X b wb) : QE J X (.BinOp a .LShift b pos) (wOp dShl wa wb) :=
  qe_op1 op_shl (op2_I (fun _ _ h => of_decide_eq_true h) fun _ _ _ => rfl) ha hb
def dShr : D → D → Option D := dI2 (fun _ j => decide (0 ≤ j)) fun i j => .int (i / 2 ^ j.toNat)
theorem qe_shr (ha : QE J X a wa) (hb : QE J X b wb) : QE J X (.BinOp a .RShift b pos) (wOp dShr wa wb) :=
  qe_op1 op_shr (op2_I (fun _ _ h => of_decide_eq_true h) fun _ _ _ => rfl) ha hb
theorem dShl_i {i j : Int} : dShl (.int i) (.int j) = if 0 ≤ j ∧ j ≤ 1000000 ∧ i.natAbs < 2 ^ 64 then some (.int (i * 2 ^ j.toNat)) else none := by
  unfold dShl dI2
  by_cases h : CPow i j
  · have h' : 0 ≤ j ∧ j ≤ 1000000 ∧ i.natAbs < 2 ^ 64 := h
    simp [h, h']
  · have h' : ¬ (0 ≤ j ∧ j ≤ 1000000 ∧ i.natAbs < 2 ^ 64) := h
    simp only [h,decide_false]
    rw [if_neg h']; rfl
/-! ### a statement that is never reached -/
def sDead : WS := fun _ _ _ => False
theorem qs_dead {st : Stmt} : QS J X n0 st sDead := ⟨fun _ _ _ => False, ⟨fun _ _ _ _ _ _ h => h.elim⟩, fun _ _ _ h => h.elim⟩
/-! ### list(x), a list that changes -/
def wListO (ws : WA) : WE := fun env M Q => ws env M fun rs M1 => ∃ ds, dats M1 rs = some ds ∧ ∃ x, ds = [x] ∧ ∃ es, x.items = some es ∧ Q (.o M1.length) (M1 ++ [.lst es])
theorem qe_listO (hg : Gl X "list") (hm : X.mg "list" = none) (ha : QA J X [e] ws) (he : starEach [e] X.env = (false, eval e X.env) :: starEach [] X.env := by rfl) (hpl : (backTo pos (starEach [] X.env)).any (·.1) = false := by rfl) : QE J X (.Call (.Name "list" p) [e] [] pos) (wListO ws) := by
  obtain ⟨ta, pa, da⟩ := ha
  refine ⟨_, pe_callTy call_list_of hg hm boot_list pa (by decide) (by decide) he hpl, fun env M Q hw S A σ H R st en k => ?_⟩
  refine da env M _ hw S A σ H _ st en fun vs H1 rs M1 A1 p1 s1 q1 ⟨ds, e1, x, ex, es, hi, hq⟩ => ?_
  subst ex
  obtain ⟨v, rfl, rf⟩ := (s1.dats q1 e1).one
  obtain ⟨q, xs, rfl, e2, e3⟩ := rf.items off_sub hi
  refine ⟨q, xs, rfl, e2, fun l hl => ?_⟩
  obtain ⟨s2, p2⟩ := s1.new (mo := .lst es) (o := .lst xs) hl ⟨xs, upd_same, Reps.mono (view_new hl) _ _ e3⟩
  exact k _ _ (.o M1.length) _ _ (p1.trans p2) s2 ⟨l, by rw [← s1.len, List.getElem?_append_right (Nat.le_refl _)]; simp, rfl⟩ hq
/-! ### xs[i] as a target -/
def gSubD (wo wi : WE) : WG := fun r env M Q => wo env M fun o M2 => wi env M2 fun ix M3 => ∃ d, r = .d d ∧ ∃ k, o = .o k ∧ ∃ mo, M3[k]? = some mo ∧ ∃ ds, mo.ls = some ds ∧ ∃ i, ix = .d (.int i) ∧ ∃ j, ixN ds.length i = some j ∧ Q env (M3.set k (mo.put (ds.set j d)))
theorem qg_sub {pos' : Pos} (ho : QE J X o wo) (hi : QE J X i wi) (hsub : ∀ v, assign (.Subscript o i pos') X.env v = (do
      let ov ← holding [v] (eval o X.env)
      let iv ← holding [v, ov] (eval i X.env)
      standAt pos'
      holding [v, ov, iv] (setItem ov iv v)
      release [v, ov, iv] []) := by intro _; rfl) : QG J X [] (.Subscript o i pos') (gSubD wo wi) := by
  obtain ⟨to, po, do_⟩ := ho
  obtain ⟨ti, pi, di⟩ := hi
  refine ⟨_, pg_sub po pi set_list hsub, fun r env M Q hw S A σ H v R st en rv k => ?_⟩
  refine do_ env M _ hw S A σ H _ st en fun v2 H2 o2 M2 A2 p2 s2 q2 hw2 => ?_
  refine di env M2 _ hw2 S A2 σ H2 _ s2 (en.mono p2) fun v3 H3 i3 M3 A3 p3 s3 q3 ⟨d, e1, k', e2, mo, e3, ds, e3', i, e4, j, e5, hq⟩ => ?_
  subst e1 e2 e4
  obtain ⟨a, ha, rfl⟩ := q2.mono p3
  cases q3
  obtain ⟨vs, g1, g2⟩ := (s3.mem k' _ a e3 ha).lsD e3'
  have rd : Rep X.K (view S A3 H3) d v := (rv.mono (p2.trans p3))
  refine ⟨a, vs, i, j, rfl, rfl, g1, by rw [g2.len]; exact e5, ?_⟩
  obtain ⟨s4, p4⟩ := s3.set (o := .lst (vs.set j v)) (mo := mo.put (ds.set j d)) ha ((s3.mem k' _ a e3 ha).put e3' upd_same (by rw [view_set (List.mem_of_getElem? ha)]; exact Reps.set rd j g2))
  have pp := (p2.trans p3).trans p4
  exact k σ _ env _ A3 pp s4 (en.mono pp) (fun _ _ => rfl) hq
end
/-! ### range(i, j, -1) -/
def rngDn (hi : Int) (n : Nat) : List D := (List.range n).map fun k => .int (hi - (k : Nat))
theorem rngDn_get {hi : Int} {n k : Nat} {d : D} (h : (rngDn hi n)[k]? = some d) : k < n ∧ d = .int (hi - (k : Nat)) := by
  unfold rngDn at h
  rw [List.getElem?_map] at h
  by_cases hk : k < n
  · rw [List.getElem?_range hk] at h
    simp at h
    exact ⟨hk, h.symm⟩
  · rw [List.getElem?_eq_none (by simpa using hk)] at h
    cases h
theorem rngDn_len {hi : Int} {n : Nat} : (rngDn hi n).length = n := by simp [rngDn]
theorem wlk_rd {K : PySem.W.Frag} {S A : List Addr} {H : Hp} {hi : Int} {n : Nat} : Wlk K S A H (Itc hi (-1) n) (rngDn hi n) := by
  intro S' A' H' sm tr
  refine ⟨fun i d e => ?_, fun i h => by rw [rngDn_len] at h; exact h⟩
  obtain ⟨h1, rfl⟩ := rngDn_get e
  refine ⟨h1, fun x H2 ⟨y1, y2⟩ => ?_⟩
  subst y1
  refine ⟨Same.refl _, ?_⟩
  rw [y2, show hi + (i : Nat) * (-1 : Int) = hi - (i : Nat) by omega]
  rfl
def iRD (ws : WA) : WI := fun env M Q => ws env M fun rs M1 => ∃ i, rs.head? = some (.d (.int i)) ∧ ∃ j, rs.tail = [.d (.int j), .d (.int (-1))] ∧ (-(2 ^ 62) ≤ i ∧ i < 2 ^ 62 ∧ -(2 ^ 62) ≤ j ∧ j < 2 ^ 62) ∧ Q (rngDn i (i - j).toNat) M1
theorem qi_rangeD {J : Bs} {X : Cx} {tg a b c : Expr} {ws : WA} {p pos : Pos} (hg : Gl X "range") (hm : X.mg "range" = none) (h : QA J X [a, b, c] ws)
    (hs : starEach [a, b, c] X.env = (false, eval a X.env) :: starEach [b, c] X.env := by rfl) (hpl : (backTo pos (starEach [b, c] X.env)).any (·.1) = false := by rfl) : QI J X tg (.Call (.Name "range" p) [a, b, c] [] pos) (iRD ws) := by
  obtain ⟨ta, pa, da⟩ := h
  refine ⟨_, pi_range3 hg hm pa hs hpl, fun env M Q hw S A σ H R st en k => ?_⟩
  refine da env M _ hw S A σ H _ st en fun vs H1 rs M1 A1 p1 s1 q1 ⟨i, ei, j, ej, ⟨b1, b2, b3, b4⟩, hq⟩ => ?_
  have e : rs = [.d (.int i), .d (.int j), .d (.int (-1))] := by rw [headTail ei, ej]
  subst e
  obtain ⟨v, us, rfl, r1, u, us2, rfl, r2, z, us3, rfl, r3, r4⟩ := q1
  cases r1
  cases r2
  cases r3
  cases r4
  exact ⟨i, j, -1, _, rfl, RgC.neg b1 b2 b3 b4, k _ H1 _ M1 A1 p1 s1 wlk_rd hq⟩
/-- one statement on -/
theorem seq_ {a b : WS} {E : EndsD} {env : Env'} {M : Mem} (h : a { E with nx := b E } env M) : sSeq a b E env M := h
theorem dats_o {M : Mem} {k : Nat} {rs : List Rv} : dats M (.o k :: rs) = ((Rv.o k).dat M).bind fun d => (dats M rs).map (d :: ·) := by
  show (match (Rv.o k).dat M, dats M rs with
    | some d, some ds => some (d :: ds)
    | _, _ => none) = _
  cases (Rv.o k).dat M <;> cases dats M rs <;> rfl
theorem cut1_o2 {n : Nat} : cut1 (n + 3) (some (.o 2)) = some (.o 2) := cut1_o (by omega)
theorem cut1_o3 {n : Nat} : cut1 (n + 4) (some (.o 3)) = some (.o 3) := cut1_o (by omega)
theorem cut1_o4 {n : Nat} : cut1 (n + 5) (some (.o 4)) = some (.o 4) := cut1_o (by omega)
theorem ad_la {a : Addr} {ds : List D} : (MO.la a ds).ad = some a := rfl
theorem ad_da {a : Addr} {ks : List (Key × D)} : (MO.da a ks).ad = some a := rfl
end Dw
set_option Elab.async false
set_option linter.all false
set_option maxRecDepth 100000
set_option maxHeartbeats 4000000
/-! DwQ: small lemmas: places from behind, slices, texts that are not the same, `in` of a written row. -/
namespace Dw
open PySem PySem.Spec PyProof.Rows L2

theorem atI_last {α : Type} {xs : List α} {x : α} : atI (xs ++ [x]) (-1) = some x := by
  unfold atI ixN
  rw [if_neg (by decide), if_pos (by simp; omega)]
  have : (-1 + ((xs ++ [x]).length : Int)).toNat = xs.length := by simp; omega
  rw [this]; simp
theorem cut_seg {α : Type} (xs : List α) (i j : Nat) : cutD xs (some (i : Int)) (some (j : Int)) = (xs.drop i).take (j - i) := by
  unfold cutD
  rw [HT.sIx_nat, HT.sIx_nat]
  by_cases hi : i ≤ xs.length
  · rw [Nat.min_eq_left hi]
    by_cases hj : j ≤ xs.length
    · rw [Nat.min_eq_left hj]
    · rw [Nat.min_eq_right (by omega), List.take_of_length_le (by rw [List.length_drop]; omega), List.take_of_length_le (by rw [List.length_drop]; omega)]
  · rw [Nat.min_eq_right (show xs.length ≤ i by omega), List.drop_of_length_le (Nat.le_refl _), List.drop_of_length_le (show xs.length ≤ i by omega)]; simp
theorem cut_mid {α : Type} (x l : α) (xs : List α) : cutD (x :: (xs ++ [l])) (some 1) (some (-1)) = xs := by
  unfold cutD
  have e : HT.sIx (x :: (xs ++ [l])).length (x :: (xs ++ [l])).length (some (-1)) = xs.length + 1 := by
    show (if (-1 : Int) < 0 then ((-1 : Int) + ((x :: (xs ++ [l])).length : Int)).toNat else min (-1 : Int).toNat (x :: (xs ++ [l])).length) = _
    rw [if_pos (by decide)]; simp; omega
  have e1 : HT.sIx (x :: (xs ++ [l])).length 0 (some 1) = 1 := by
    show HT.sIx (x :: (xs ++ [l])).length 0 (some ((1 : Nat) : Int)) = 1
    rw [HT.sIx_nat]; simp
  rw [e, e1]; simp
theorem ixN_if {n j : Nat} {x : Option Nat} (h : j < n) : (if 0 ≤ (j : Int) then (if (j : Int) < (n : Int) then some (j : Int).toNat else none) else x) = some j := by
  rw [if_pos (by omega), if_pos (by omega)]; rfl
theorem szl {n : Nat} (h : n ≤ 10000000) : n < sizeLine := Dw.sz' h
theorem shf_o {n k : Nat} : shf n (.o k) = .o (n + k) := rfl
theorem ofS_inj {a b : String} : (Str.ofString a = Str.ofString b) = (a = b) := by
  refine propext ⟨fun h => ?_, fun h => by rw [h]⟩
  rw [Str.ofString_eq_toList, Str.ofString_eq_toList] at h
  have h1 : a.toList.map Char.toNat = b.toList.map Char.toNat := by
    have := congrArg (fun s : Str => s.cps.toList) h
    simpa using this
  have h2 : a.toList = b.toList := (List.map_inj_right (fun x y e => Char.toNat_inj.mp e)).mp h1
  exact String.toList_inj.mp h2
theorem dIn_st {x : Str} {ds : List D} : dIn (.str x) (.tup ds) = if ds.all D.flat = true then some (.bl (ds.any fun d => d.feq (.str x))) else none := by
  show ((if (true && ds.all D.flat) = true then _ else none : Option D).or none) = _
  rw [Bool.true_and, Option.or_none]; rfl
theorem dIn_it {x : Int} {ds : List D} : dIn (.int x) (.tup ds) = if ds.all D.flat = true then some (.bl (ds.any fun d => d.feq (.int x))) else none := by
  show ((if (true && ds.all D.flat) = true then _ else none : Option D).or none) = _
  rw [Bool.true_and, Option.or_none]; rfl
theorem dIn_il {x : Int} {ds : List D} : dIn (.int x) (.lst ds) = if ds.all D.flat = true then some (.bl (ds.any fun d => d.feq (.int x))) else none := by
  show ((if (true && ds.all D.flat) = true then _ else none : Option D).or none) = _
  rw [Bool.true_and, Option.or_none]; rfl
theorem dIn_sl {x : Str} {ds : List D} : dIn (.str x) (.lst ds) = if ds.all D.flat = true then some (.bl (ds.any fun d => d.feq (.str x))) else none := by
  show ((if (true && ds.all D.flat) = true then _ else none : Option D).or none) = _
  rw [Bool.true_and, Option.or_none]; rfl
theorem dNotIn_st {x : Str} {ds : List D} : dNotIn (.str x) (.tup ds) = if ds.all D.flat = true then some (.bl (!(ds.any fun d => d.feq (.str x)))) else none := by
  show ((if (true && ds.all D.flat) = true then _ else none : Option D).or none) = _
  rw [Bool.true_and, Option.or_none]; rfl
theorem dNotIn_it {x : Int} {ds : List D} : dNotIn (.int x) (.tup ds) = if ds.all D.flat = true then some (.bl (!(ds.any fun d => d.feq (.int x)))) else none := by
  show ((if (true && ds.all D.flat) = true then _ else none : Option D).or none) = _
  rw [Bool.true_and, Option.or_none]; rfl
theorem feq_ss {a b : Str} : D.feq (.str a) (.str b) = decide (a = b) := by
  show (a == b) = _
  by_cases h : a = b
  · subst h; simp
  · rw [decide_eq_false h]; exact beq_eq_false_iff_ne.mpr h
theorem feq_ii {a b : Int} : D.feq (.int a) (.int b) = decide (a = b) := by
  show (a == b) = _
  by_cases h : a = b
  · subst h; simp
  · rw [decide_eq_false h]; exact beq_eq_false_iff_ne.mpr h
theorem flat_s {a : Str} : D.flat (.str a) = true := rfl
theorem flat_i {a : Int} : D.flat (.int a) = true := rfl
theorem int_if {p : Prop} [Decidable p] {a b : D} : (if p then (some a : Option D) else some b) = some (if p then a else b) := by split <;> rfl
section
variable {J : Bs} {X : Cx} {k : Nat} {f : Addr} {fd : FuncData} {ps : List Str} {φ : Ct} {x : Str} {p pos : Pos}
theorem qe_call0 (F : FnOk X.prog X.w X.K X.mg X.base CX0 k f fd ps (spD X.K φ)) (hr : Room k X.A) (hg : Gl X x) (hm : X.mg x = some (.ref f)) (hk : PySem.W.keepIn X.K (.ref f) = true) (hb : Binds X.K fd ps [])
    (hdb : (x == ("__debug__" : Str)) = false := by decide) : QE J X (.Call (.Name x p) [] [] pos) (wCall φ wNil) := by
  refine ⟨_, pe_call0 F hr hg hm hk hb .nil pass0 hdb, fun env M Q hw S A σ H R st en k => ?_⟩
  obtain ⟨ds, e, h⟩ := hw
  show spD X.K φ [] H R E0
  exact call_data (vs := []) st (show RepVs X.K S A H [] [] from rfl) e h fun v H' r M' A' p s q hq => k v H' r M' A' p s q hq
end
end Dw
set_option Elab.async false
set_option linter.all false
/-! DwR: the rules that run the readings, as one simp set (printed by mkrules.py). -/
namespace Dw
open PySem PySem.Spec PyProof.Rows L2
theorem rl0 : type_of% @shf_o := @shf_o
theorem rl1 : type_of% @ofS_inj := @ofS_inj
theorem rl2 : type_of% @dIn_st := @dIn_st
theorem rl3 : type_of% @dIn_it := @dIn_it
theorem rl4 : type_of% @dIn_il := @dIn_il
theorem rl5 : type_of% @dIn_sl := @dIn_sl
theorem rl6 : type_of% @dNotIn_st := @dNotIn_st
theorem rl7 : type_of% @dNotIn_it := @dNotIn_it
theorem rl8 : type_of% @feq_ss := @feq_ss
theorem rl9 : type_of% @feq_ii := @feq_ii
theorem rl10 : type_of% @flat_s := @flat_s
theorem rl11 : type_of% @flat_i := @flat_i
theorem rl12 : type_of% @List.all_cons := @List.all_cons
theorem rl13 : type_of% @List.all_nil := @List.all_nil
theorem rl14 : type_of% @List.any_cons := @List.any_cons
theorem rl15 : type_of% @List.any_nil := @List.any_nil
theorem rl16 : type_of% @Bool.or_false := @Bool.or_false
theorem rl17 : type_of% @Bool.false_or := @Bool.false_or
theorem rl18 : type_of% @Bool.or_true := @Bool.or_true
theorem rl19 : type_of% @Bool.true_or := @Bool.true_or
theorem rl20 : type_of% @Bool.or_eq_true := @Bool.or_eq_true
theorem rl21 : type_of% @Bool.and_true := @Bool.and_true
theorem rl22 : type_of% @Bool.true_and := @Bool.true_and
theorem rl23 : type_of% @List.drop_succ_cons := @List.drop_succ_cons
theorem rl24 : type_of% @List.drop_zero := @List.drop_zero
theorem rl25 : type_of% @List.drop_nil := @List.drop_nil
theorem rl26 : type_of% @dats_o := @dats_o
theorem rl27 : type_of% @D.ref.injEq := @D.ref.injEq
theorem rl28 : type_of% @exists_and_right := @exists_and_right
theorem rl29 : type_of% @wRaw.eq_1 := @wRaw.eq_1
theorem rl36 : type_of% @wObj.eq_1 := @wObj.eq_1
theorem rl43 : type_of% @ad_la := @ad_la
theorem rl44 : type_of% @ad_da := @ad_da
theorem rl45 : type_of% @wPop.eq_1 := @wPop.eq_1
theorem rl52 : type_of% @wPopAt.eq_1 := @wPopAt.eq_1
theorem rl59 : type_of% @wCallG.eq_1 := @wCallG.eq_1
theorem rl66 : type_of% @grpOk.eq_1 := @grpOk.eq_1
theorem rl67 : type_of% @grpOk.eq_2 := @grpOk.eq_2
theorem rl68 : type_of% @grpOk.eq_3 := @grpOk.eq_3
theorem rl73 : type_of% @grpR.eq_1 := @grpR.eq_1
theorem rl74 : type_of% @grpR.eq_2 := @grpR.eq_2
theorem rl80 : type_of% @wDIn.eq_1 := @wDIn.eq_1
theorem rl87 : type_of% @wDGet.eq_1 := @wDGet.eq_1
theorem rl94 : type_of% @wDNew.eq_1 := @wDNew.eq_1
theorem rl101 : type_of% @sDPutD.eq_1 := @sDPutD.eq_1
theorem rl108 : type_of% @gSubD.eq_1 := @gSubD.eq_1
theorem rl115 : type_of% @wListO.eq_1 := @wListO.eq_1
theorem rl122 : type_of% @iRD.eq_1 := @iRD.eq_1
theorem rl129 : type_of% @sDead.eq_1 := @sDead.eq_1
theorem rl136 : type_of% @keyD.eq_1 := @keyD.eq_1
theorem rl137 : type_of% @keyD.eq_2 := @keyD.eq_2
theorem rl138 : type_of% @keyD.eq_3 := @keyD.eq_3
theorem rl143 : type_of% @dShl_i := @dShl_i
theorem rl144 : type_of% @sNil.eq_1 := @sNil.eq_1
theorem rl151 : type_of% @sIf.eq_1 := @sIf.eq_1
theorem rl158 : type_of% @sSet.eq_1 := @sSet.eq_1
theorem rl165 : type_of% @sAsg.eq_1 := @sAsg.eq_1
theorem rl172 : type_of% @sPar.eq_1 := @sPar.eq_1
theorem rl179 : type_of% @sPar3.eq_1 := @sPar3.eq_1
theorem rl186 : type_of% @sRet.eq_1 := @sRet.eq_1
theorem rl193 : type_of% @sRetN.eq_1 := @sRetN.eq_1
theorem rl200 : type_of% @sExpr.eq_1 := @sExpr.eq_1
theorem rl207 : type_of% @sBreak.eq_1 := @sBreak.eq_1
theorem rl214 : type_of% @sCont.eq_1 := @sCont.eq_1
theorem rl221 : type_of% @sSetIx.eq_1 := @sSetIx.eq_1
theorem rl228 : type_of% @wVar.eq_1 := @wVar.eq_1
theorem rl235 : type_of% @wC.eq_1 := @wC.eq_1
theorem rl242 : type_of% @wOp.eq_1 := @wOp.eq_1
theorem rl249 : type_of% @wChain.eq_1 := @wChain.eq_1
theorem rl256 : type_of% @wTb.eq_1 := @wTb.eq_1
theorem rl263 : type_of% @wAnd.eq_1 := @wAnd.eq_1
theorem rl270 : type_of% @wOr.eq_1 := @wOr.eq_1
theorem rl277 : type_of% @wNotT.eq_1 := @wNotT.eq_1
theorem rl284 : type_of% @wAndV.eq_1 := @wAndV.eq_1
theorem rl291 : type_of% @wOrV.eq_1 := @wOrV.eq_1
theorem rl298 : type_of% @wNotV.eq_1 := @wNotV.eq_1
theorem rl305 : type_of% @wIf.eq_1 := @wIf.eq_1
theorem rl312 : type_of% @wNil.eq_1 := @wNil.eq_1
theorem rl319 : type_of% @wCons.eq_1 := @wCons.eq_1
theorem rl326 : type_of% @wTup.eq_1 := @wTup.eq_1
theorem rl333 : type_of% @wLst.eq_1 := @wLst.eq_1
theorem rl340 : type_of% @wLstO.eq_1 := @wLstO.eq_1
theorem rl347 : type_of% @wSl.eq_1 := @wSl.eq_1
theorem rl354 : type_of% @wNoPart.eq_1 := @wNoPart.eq_1
theorem rl361 : type_of% @wPart.eq_1 := @wPart.eq_1
theorem rl368 : type_of% @wCB.eq_1 := @wCB.eq_1
theorem rl375 : type_of% @wNeg.eq_1 := @wNeg.eq_1
theorem rl382 : type_of% @wOrT.eq_1 := @wOrT.eq_1
theorem rl389 : type_of% @wTruth.eq_1 := @wTruth.eq_1
theorem rl396 : type_of% @wJoin.eq_1 := @wJoin.eq_1
theorem rl403 : type_of% @wLc.eq_1 := @wLc.eq_1
theorem rl410 : type_of% @sFor.eq_1 := @sFor.eq_1
theorem rl417 : type_of% @wipeE.eq_1 := @wipeE.eq_1
theorem rl418 : type_of% @wipeE.eq_2 := @wipeE.eq_2
theorem rl424 : type_of% @wKw.eq_1 := @wKw.eq_1
theorem rl431 : type_of% @wYes.eq_1 := @wYes.eq_1
theorem rl438 : type_of% @wCall.eq_1 := @wCall.eq_1
theorem rl445 : type_of% @wCallO.eq_1 := @wCallO.eq_1
theorem rl452 : type_of% @wApp.eq_1 := @wApp.eq_1
theorem rl459 : type_of% @iL.eq_1 := @iL.eq_1
theorem rl466 : type_of% @iT.eq_1 := @iT.eq_1
theorem rl473 : type_of% @iR1.eq_1 := @iR1.eq_1
theorem rl480 : type_of% @iR2.eq_1 := @iR2.eq_1
theorem rl487 : type_of% @iZ.eq_1 := @iZ.eq_1
theorem rl494 : type_of% @iS.eq_1 := @iS.eq_1
theorem rl501 : type_of% @gN.eq_1 := @gN.eq_1
theorem rl508 : type_of% @gsNil.eq_1 := @gsNil.eq_1
theorem rl515 : type_of% @gsCons.eq_1 := @gsCons.eq_1
theorem rl522 : type_of% @gTn.eq_1 := @gTn.eq_1
theorem rl529 : type_of% @endsOf.eq_1 := @endsOf.eq_1
theorem rl536 : type_of% @retR_d := @retR_d
theorem rl537 : type_of% @retR_o := @retR_o
theorem rl538 : type_of% @sFrz.eq_1 := @sFrz.eq_1
theorem rl545 : type_of% @frz_d := @frz_d
theorem rl546 : type_of% @frz_o0 := @frz_o0
theorem rl547 : type_of% @frz_o1 := @frz_o1
theorem rl548 : type_of% @frz_o10 := @frz_o10
theorem rl549 : type_of% @tru_l := @tru_l
theorem rl550 : type_of% @tru_t := @tru_t
theorem rl551 : type_of% @tru_b := @tru_b
theorem rl552 : type_of% @tru_i := @tru_i
theorem rl553 : type_of% @tru_n := @tru_n
theorem rl554 : type_of% @List.eraseIdx_cons_zero := @List.eraseIdx_cons_zero
theorem rl555 : type_of% @List.eraseIdx_cons_succ := @List.eraseIdx_cons_succ
theorem rl556 : type_of% @exists_eq' := @exists_eq'
theorem rl557 : type_of% @exists_eq := @exists_eq
theorem rl558 : type_of% @shf_d := @shf_d
theorem rl559 : type_of% @bck_d := @bck_d
theorem rl560 : type_of% @toC_nil := @toC_nil
theorem rl561 : type_of% @toC_d := @toC_d
theorem rl562 : type_of% @toC_o := @toC_o
theorem rl563 : type_of% @ds_nil := @ds_nil
theorem rl564 : type_of% @ds_cons := @ds_cons
theorem rl565 : type_of% @dats_nil := @dats_nil
theorem rl566 : type_of% @dats_d := @dats_d
theorem rl567 : type_of% @dat_d := @dat_d
theorem rl568 : type_of% @dat_o := @dat_o
theorem rl569 : type_of% @ls_lst := @ls_lst
theorem rl570 : type_of% @ls_la := @ls_la
theorem rl571 : type_of% @ls_dic := @ls_dic
theorem rl572 : type_of% @ls_da := @ls_da
theorem rl573 : type_of% @dc_dic := @dc_dic
theorem rl574 : type_of% @dc_da := @dc_da
theorem rl575 : type_of% @dc_lst := @dc_lst
theorem rl576 : type_of% @dc_la := @dc_la
theorem rl577 : type_of% @put_lst := @put_lst
theorem rl578 : type_of% @put_la := @put_la
theorem rl579 : type_of% @dput_dic := @dput_dic
theorem rl580 : type_of% @dput_da := @dput_da
theorem rl581 : type_of% @raw_lst := @raw_lst
theorem rl582 : type_of% @raw_dic := @raw_dic
theorem rl583 : type_of% @Option.bind_some := @Option.bind_some
theorem rl584 : type_of% @Option.bind_none := @Option.bind_none
theorem rl585 : type_of% @startE.eq_1 := @startE.eq_1
theorem rl592 : type_of% @kg.eq_1 := @kg.eq_1
theorem rl599 : type_of% @cutE.eq_1 := @cutE.eq_1
theorem rl606 : type_of% @cut1_d := @cut1_d
theorem rl607 : type_of% @cut1_n := @cut1_n
theorem rl608 : type_of% @cut1_o0 := @cut1_o0
theorem rl609 : type_of% @cut1_o1 := @cut1_o1
theorem rl610 : type_of% @cut1_o2 := @cut1_o2
theorem rl611 : type_of% @cut1_o3 := @cut1_o3
theorem rl612 : type_of% @cut1_o4 := @cut1_o4
theorem rl613 : type_of% @zipA.eq_1 := @zipA.eq_1
theorem rl614 : type_of% @zipA.eq_2 := @zipA.eq_2
theorem rl615 : type_of% @zipA.eq_3 := @zipA.eq_3
theorem rl620 : type_of% @dAdd_i := @dAdd_i
theorem rl621 : type_of% @dI0_i := @dI0_i
theorem rl622 : type_of% @dMod_i := @dMod_i
theorem rl623 : type_of% @dFdiv_i := @dFdiv_i
theorem rl624 : type_of% @dPow_i := @dPow_i
theorem rl625 : type_of% @dLt_i := @dLt_i
theorem rl626 : type_of% @dLe_i := @dLe_i
theorem rl627 : type_of% @dGt_i := @dGt_i
theorem rl628 : type_of% @dGe_i := @dGe_i
theorem rl629 : type_of% @dLt_s := @dLt_s
theorem rl630 : type_of% @dLe_s := @dLe_s
theorem rl631 : type_of% @dGt_s := @dGt_s
theorem rl632 : type_of% @dGe_s := @dGe_s
theorem rl633 : type_of% @dEq_i := @dEq_i
theorem rl634 : type_of% @dEq_s := @dEq_s
theorem rl635 : type_of% @dEq_b := @dEq_b
theorem rl636 : type_of% @dEq_is := @dEq_is
theorem rl637 : type_of% @dEq_si := @dEq_si
theorem rl638 : type_of% @dEq_ni := @dEq_ni
theorem rl639 : type_of% @dEq_in := @dEq_in
theorem rl640 : type_of% @dEq_sn := @dEq_sn
theorem rl641 : type_of% @dEq_ns := @dEq_ns
theorem rl642 : type_of% @dNe_i := @dNe_i
theorem rl643 : type_of% @dNe_s := @dNe_s
theorem rl644 : type_of% @dNe_b := @dNe_b
theorem rl645 : type_of% @dNe_is := @dNe_is
theorem rl646 : type_of% @dNe_si := @dNe_si
theorem rl647 : type_of% @dNe_ni := @dNe_ni
theorem rl648 : type_of% @dNe_in := @dNe_in
theorem rl649 : type_of% @dIs_b := @dIs_b
theorem rl650 : type_of% @dIs_n := @dIs_n
theorem rl651 : type_of% @dIsNot_b := @dIsNot_b
theorem rl652 : type_of% @dIsNot_n := @dIsNot_n
theorem rl653 : type_of% @dIx_l := @dIx_l
theorem rl654 : type_of% @dIx_t := @dIx_t
theorem rl655 : type_of% @dSl_l := @dSl_l
theorem rl656 : type_of% @dSl_t := @dSl_t
theorem rl657 : type_of% @dEq_ti := @dEq_ti
theorem rl658 : type_of% @dEq_li := @dEq_li
theorem rl659 : type_of% @D.isN.eq_1 := @D.isN.eq_1
theorem rl660 : type_of% @D.isN.eq_2 := @D.isN.eq_2
theorem rl666 : type_of% @atI_0 := @atI_0
theorem rl667 : type_of% @atI_1 := @atI_1
theorem rl668 : type_of% @atI_2 := @atI_2
theorem rl669 : type_of% @atI_3 := @atI_3
theorem rl670 : type_of% @atI_4 := @atI_4
theorem rl671 : type_of% @atI_5 := @atI_5
theorem rl672 : type_of% @atI_map := @atI_map
theorem rl673 : type_of% @map_int_inj := @map_int_inj
theorem rl674 : type_of% @map_str_inj := @map_str_inj
theorem rl675 : type_of% @fLen_t := @fLen_t
theorem rl676 : type_of% @fLen_l := @fLen_l
theorem rl677 : type_of% @fLen_s := @fLen_s
theorem rl678 : type_of% @fInt_i := @fInt_i
theorem rl679 : type_of% @fInt_b := @fInt_b
theorem rl680 : type_of% @fTup_l := @fTup_l
theorem rl681 : type_of% @fTup_t := @fTup_t
theorem rl682 : type_of% @fList_l := @fList_l
theorem rl683 : type_of% @fList_t := @fList_t
theorem rl684 : type_of% @fMax2_i := @fMax2_i
theorem rl685 : type_of% @fMin2_i := @fMin2_i
theorem rl686 : type_of% @fAbs_i := @fAbs_i
theorem rl687 : type_of% @isi_int_int := @isi_int_int
theorem rl688 : type_of% @isi_int_bool := @isi_int_bool
theorem rl689 : type_of% @isi_int_str := @isi_int_str
theorem rl690 : type_of% @isi_int_tup := @isi_int_tup
theorem rl691 : type_of% @isi_int_lst := @isi_int_lst
theorem rl692 : type_of% @isi_bl_int := @isi_bl_int
theorem rl693 : type_of% @isi_bl_bool := @isi_bl_bool
theorem rl694 : type_of% @isi_bl_str := @isi_bl_str
theorem rl695 : type_of% @isi_bl_tup := @isi_bl_tup
theorem rl696 : type_of% @isi_str_int := @isi_str_int
theorem rl697 : type_of% @isi_str_bool := @isi_str_bool
theorem rl698 : type_of% @isi_str_str := @isi_str_str
theorem rl699 : type_of% @isi_str_tup := @isi_str_tup
theorem rl700 : type_of% @isi_tup_int := @isi_tup_int
theorem rl701 : type_of% @isi_tup_bool := @isi_tup_bool
theorem rl702 : type_of% @isi_tup_str := @isi_tup_str
theorem rl703 : type_of% @isi_tup_tup := @isi_tup_tup
theorem rl704 : type_of% @isi_lst_int := @isi_lst_int
theorem rl705 : type_of% @isi_lst_bool := @isi_lst_bool
theorem rl706 : type_of% @isi_lst_str := @isi_lst_str
theorem rl707 : type_of% @isi_lst_tup := @isi_lst_tup
theorem rl708 : type_of% @isi_lst_lst := @isi_lst_lst
theorem rl709 : type_of% @isi_non_int := @isi_non_int
theorem rl710 : type_of% @isi_non_bool := @isi_non_bool
theorem rl711 : type_of% @isi_non_str := @isi_non_str
theorem rl712 : type_of% @isi_non_tup := @isi_non_tup
theorem rl713 : type_of% @items_t := @items_t
theorem rl714 : type_of% @items_l := @items_l
theorem rl715 : type_of% @List.getElem?_cons_zero := @List.getElem?_cons_zero
theorem rl716 : type_of% @List.getElem?_cons_succ := @List.getElem?_cons_succ
theorem rl717 : type_of% @List.set_cons_zero := @List.set_cons_zero
theorem rl718 : type_of% @List.set_cons_succ := @List.set_cons_succ
theorem rl719 : type_of% @List.map_cons := @List.map_cons
theorem rl720 : type_of% @List.map_nil := @List.map_nil
theorem rl721 : type_of% @List.length_cons := @List.length_cons
theorem rl722 : type_of% @List.length_nil := @List.length_nil
theorem rl723 : type_of% @List.cons_append := @List.cons_append
theorem rl724 : type_of% @List.nil_append := @List.nil_append
theorem rl725 : type_of% @List.append_nil := @List.append_nil
theorem rl726 : type_of% @List.replicate_succ := @List.replicate_succ
theorem rl727 : type_of% @List.replicate_zero := @List.replicate_zero
theorem rl728 : type_of% @List.head?_cons := @List.head?_cons
theorem rl729 : type_of% @List.tail_cons := @List.tail_cons
theorem rl730 : type_of% @List.take_succ_cons := @List.take_succ_cons
theorem rl731 : type_of% @List.take_zero := @List.take_zero
theorem rl732 : type_of% @List.take_nil := @List.take_nil
theorem rl733 : type_of% @Option.some.injEq := @Option.some.injEq
theorem rl734 : type_of% @Option.map_some := @Option.map_some
theorem rl735 : type_of% @Option.map_none := @Option.map_none
theorem rl736 : type_of% @exists_eq_left' := @exists_eq_left'
theorem rl737 : type_of% @exists_eq_left := @exists_eq_left
theorem rl738 : type_of% @Rv.d.injEq := @Rv.d.injEq
theorem rl739 : type_of% @Rv.o.injEq := @Rv.o.injEq
theorem rl740 : type_of% @D.int.injEq := @D.int.injEq
theorem rl741 : type_of% @D.bl.injEq := @D.bl.injEq
theorem rl742 : type_of% @D.str.injEq := @D.str.injEq
theorem rl743 : type_of% @D.tup.injEq := @D.tup.injEq
theorem rl744 : type_of% @D.lst.injEq := @D.lst.injEq
theorem rl745 : type_of% @MO.lst.injEq := @MO.lst.injEq
theorem rl746 : type_of% @List.cons.injEq := @List.cons.injEq
theorem rl747 : type_of% @and_true := @and_true
theorem rl748 : type_of% @true_and := @true_and
theorem rl749 : type_of% @and_assoc := @and_assoc
theorem rl750 : type_of% @exists_and_left := @exists_and_left
theorem rl751 : type_of% @decide_eq_true_eq := @decide_eq_true_eq
theorem rl752 : type_of% @if_true := @if_true
theorem rl753 : type_of% @Bool.true_eq_false := @Bool.true_eq_false
theorem rl754 : type_of% @Bool.false_eq_true := @Bool.false_eq_true
theorem rl755 : type_of% @if_false := @if_false
theorem rl756 : type_of% @Bool.not_true := @Bool.not_true
theorem rl757 : type_of% @Bool.not_false := @Bool.not_false
theorem rl758 : type_of% @eq_self := @eq_self
theorem rl759 : type_of% @exists_const := @exists_const
theorem rl760 : type_of% @List.filterMap_cons_some := @List.filterMap_cons_some
theorem rl761 : type_of% @List.filterMap_nil := @List.filterMap_nil
theorem rl762 : type_of% @List.filterMap_cons := @List.filterMap_cons
theorem rl763 : type_of% @and_self := @and_self
theorem rl764 : type_of% @CMul_iff := @CMul_iff
theorem rl765 : type_of% @or_true := @or_true
theorem rl766 : type_of% @true_or := @true_or
theorem rl767 : type_of% @ixN_def := @ixN_def
theorem rl768 : type_of% @Int.cast_ofNat_Int := @Int.cast_ofNat_Int
theorem rl769 : type_of% @decide_true := @decide_true
theorem rl770 : type_of% @decide_false := @decide_false
theorem rl771 : type_of% @dMul_i := @dMul_i
theorem rl772 : type_of% @strD.eq_1 := @strD.eq_1
theorem rl779 : type_of% @ite_true := @ite_true
theorem rl780 : type_of% @ite_false := @ite_false
theorem rl781 : type_of% @false_and := @false_and
theorem rl782 : type_of% @and_false := @and_false
theorem rl783 : type_of% @or_false := @or_false
theorem rl784 : type_of% @false_or := @false_or
theorem rl785 : type_of% @exists_false := @exists_false
end Dw
set_option Elab.async false
set_option linter.all false
set_option maxRecDepth 100000
set_option maxHeartbeats 4000000
/-! DwY: the facts of own exception classes from the head (a Hook with one more Bool), suites that know their exception's class. -/
namespace Dw
open PySem PySem.Spec PyProof.Rows L2

def oexB (K : PySem.W.Frag) (C : Addr) : Bool := (match K.lookup C with
  | some ⟨.type t, _, .cls cd, sl⟩ => (match cd.mro, sl.toList with
    | .ref C' :: bm, [_, _, _, _, some (.builtin n), _] => decide (t = "type") && (decide (C' = C) && (decide (n = "ValueError.__new__") && (!cd.hasDel && (cd.hasDict && PySem.HandSPX.refsVE bm))))
    | _, _ => false)
  | _ => false) && (decide (PySem.W.findIn K (.ref C) "__setattr__" = some (some (.builtin "object.__setattr__"))) && (decide (PySem.W.subIn K (.ref C) (.type "BaseException") = some true) && (decide (PySem.W.typeIn K (.ref C) = some (.type "type")) && PySem.W.keepIn K (.ref C))))
theorem oexB_ok {K : PySem.W.Frag} {C : Addr} (h : oexB K C = true) : OexC K C := by
  unfold oexB at h
  obtain ⟨h1, h⟩ := Bool.and_eq_true_iff.mp h
  obtain ⟨h2, h⟩ := Bool.and_eq_true_iff.mp h
  obtain ⟨h3, h⟩ := Bool.and_eq_true_iff.mp h
  obtain ⟨h4, h5⟩ := Bool.and_eq_true_iff.mp h
  refine ⟨?_, of_decide_eq_true h2, of_decide_eq_true h3, of_decide_eq_true h4, h5⟩
  split at h1
  · rename_i t dd cd sl ho
    split at h1
    · rename_i C' bm k0 k1 k2 k3 n k5 hm hs
      obtain ⟨g1, h1⟩ := Bool.and_eq_true_iff.mp h1
      obtain ⟨g2, h1⟩ := Bool.and_eq_true_iff.mp h1
      obtain ⟨g3, h1⟩ := Bool.and_eq_true_iff.mp h1
      obtain ⟨g4, h1⟩ := Bool.and_eq_true_iff.mp h1
      obtain ⟨g5, g6⟩ := Bool.and_eq_true_iff.mp h1
      have g1 := of_decide_eq_true g1
      have g2 := of_decide_eq_true g2
      have g3 := of_decide_eq_true g3
      subst g1 g2 g3
      obtain ⟨nm, bs, mro, ns, qn, hd, sn, sub, ab, col, del⟩ := cd
      dsimp only at hm g4 g5
      subst hm g5
      have g4 : del = false := by simpa using g4
      subst g4
      have hsl : sl = #[k0, k1, k2, k3, some (.builtin "ValueError.__new__"), k5] := by
        obtain ⟨l⟩ := sl
        simp only at hs
        rw [hs]
      subst hsl
      exact ⟨nm, qn, ns, bs, bm, sn, sub, ab, col, dd, k0, k1, k2, k3, k5, ho, g6⟩
    · cases h1
  · cases h1
/-- a class: its name, its exception's fields, whether it falls under other names' classes -/
structure XcD where
  cls : Str
  fields : List Str
  exm : List (Str × Bool)
def XcD.ok (K : PySem.W.Frag) (q : XcD) : Bool :=
  oexB K (He.ga K q.cls) && (xfB K (He.ga K q.cls) && (decide (PySem.W.findIn K (.ref (He.ga K q.cls)) "__init__" = some (some (.ref (He.ma K (He.ga K q.cls) "__init__")))) && (decide (PySem.W.typeIn K (.ref (He.ma K (He.ga K q.cls) "__init__")) = some (.type "function")) &&
    (q.fields.all fun f => decide (PySem.W.findIn K (.ref (He.ga K q.cls)) f = some none)) && q.exm.all fun p => decide (PySem.W.exmOne K (.ref (He.ga K q.cls)) (.ref (He.ga K p.1)) = some p.2))))
structure XcOk (K : PySem.W.Frag) (C fI : Addr) : Prop where
  oex : OexC K C
  xf : XfC K C
  ini : PySem.W.findIn K (.ref C) "__init__" = some (some (.ref fI))
  tyI : PySem.W.typeIn K (.ref fI) = some (.type "function")
theorem XcD.fine {K : PySem.W.Frag} {q : XcD} (h : q.ok K = true) : XcOk K (He.ga K q.cls) (He.ma K (He.ga K q.cls) "__init__") := by
  obtain ⟨h1, h⟩ := Bool.and_eq_true_iff.mp h
  obtain ⟨h2, h⟩ := Bool.and_eq_true_iff.mp h
  obtain ⟨h3, h⟩ := Bool.and_eq_true_iff.mp h
  obtain ⟨h, h6⟩ := Bool.and_eq_true_iff.mp h
  obtain ⟨h4, h5⟩ := Bool.and_eq_true_iff.mp h
  exact ⟨oexB_ok h1, xfB_ok h2, of_decide_eq_true h3, of_decide_eq_true h4⟩
theorem XcD.fld {K : PySem.W.Frag} {q : XcD} (h : q.ok K = true) {f : Str} (hf : f ∈ q.fields) : PySem.W.findIn K (.ref (He.ga K q.cls)) f = some none := by
  obtain ⟨h1, h⟩ := Bool.and_eq_true_iff.mp h
  obtain ⟨h2, h⟩ := Bool.and_eq_true_iff.mp h
  obtain ⟨h3, h⟩ := Bool.and_eq_true_iff.mp h
  obtain ⟨h, h6⟩ := Bool.and_eq_true_iff.mp h
  obtain ⟨h4, h5⟩ := Bool.and_eq_true_iff.mp h
  exact of_decide_eq_true (List.all_eq_true.mp h5 f hf)
theorem XcD.em {K : PySem.W.Frag} {q : XcD} (h : q.ok K = true) {p : Str × Bool} (hp : p ∈ q.exm) : PySem.W.exmOne K (.ref (He.ga K q.cls)) (.ref (He.ga K p.1)) = some p.2 := by
  obtain ⟨h1, h⟩ := Bool.and_eq_true_iff.mp h
  obtain ⟨h2, h⟩ := Bool.and_eq_true_iff.mp h
  obtain ⟨h3, h⟩ := Bool.and_eq_true_iff.mp h
  obtain ⟨h, h6⟩ := Bool.and_eq_true_iff.mp h
  exact of_decide_eq_true (List.all_eq_true.mp h6 p hp)
/-! ### the Hook -/
def obsY (xs : List XcD) (fa : List He.Fa) (fn : List He.DefD) (K : PySem.W.Frag) : Bool × He.AlD := (xs.all fun q => q.ok K, He.obsD fa fn K)
def SaysY (xs : List XcD) (fa : List He.Fa) (fn : List He.DefD) (K : PySem.W.Frag) : Prop := obsY xs fa fn K = (true, He.valD fn)
def obsYG (n : Nat) (xs : List XcD) (fa : List He.Fa) (fn : List He.DefD) (g : Addr → Option Obj) : Bool × He.AlD := obsY xs fa fn (He.frG g (He.asD g n))
def hookY (n : Nat) (xs : List XcD) (fa : List He.Fa) (fn : List He.DefD) : PySem.W.Hook where
  α := Bool × He.AlD
  obs := fun s => obsYG n xs fa fn s.heap.get?
  val := fun _ => (true, He.valD fn)
  says := fun _ h => ∃ K : PySem.W.Frag, K.In h ∧ SaysY xs fa fn K
  of := fun _ _ e => ⟨_, He.frG_in, e⟩
  keeps := fun _ _ _ ⟨K, hK, c⟩ k => ⟨K, PySem.W.Frag.In.keeps hK k, c⟩
theorem obsYG_eq {n : Nat} {xs : List XcD} {fa : List He.Fa} {fn : List He.DefD} {g : Addr → Option Obj} {s : Shared} (h : ∀ a, g a = s.heap.get? a) : obsYG n xs fa fn g = (hookY n xs fa fn).obs s := by
  have e : g = s.heap.get? := funext h
  rw [e] <;> rfl
theorem SaysY.old {xs : List XcD} {fa : List He.Fa} {fn : List He.DefD} {K : PySem.W.Frag} (c : SaysY xs fa fn K) : He.SaysD fa fn K := congrArg (fun z : Bool × He.AlD => z.2) c
theorem SaysY.xc {xs : List XcD} {fa : List He.Fa} {fn : List He.DefD} {K : PySem.W.Frag} (c : SaysY xs fa fn K) (i : Nat) {q : XcD} (h : xs[i]? = some q := by rfl) : q.ok K = true := by
  have c1 : (xs.all fun q => q.ok K) = true := congrArg (fun z : Bool × He.AlD => z.1) c
  exact List.all_eq_true.mp c1 q (List.mem_of_getElem? h)
/-! ### a suite that knows its exception's class -/
def sWhen (p : Prop) (w : WS) : WS := fun E env M => p ∧ w E env M
section
variable {J : Bs} {X : Cx} {n0 : Nat} {b : List Stmt} {w : WS} {p : Prop}
theorem qss_never : QSs J X n0 b fun _ _ _ => False := by
  have go : ∀ l : List Stmt, ∃ t, PSs X l t := by
    intro l
    induction l with
    | nil => exact ⟨_, pss_nil⟩
    | cons a l ih => obtain ⟨t, ht⟩ := ih; exact ⟨_, pss_cons ps_never ht⟩
  obtain ⟨t, ht⟩ := go b
  exact ⟨t, ht, fun E env M hw => hw.elim⟩
theorem qss_when (h : p → QSs J X n0 b w) : QSs J X n0 b (sWhen p w) := by
  by_cases hp : p
  · obtain ⟨ts, ps, dn⟩ := h hp
    exact ⟨ts, ps, fun E env M hw => dn E env M hw.2⟩
  · obtain ⟨ts, ps, dn⟩ := qss_never (J := J) (X := X) (n0 := n0) (b := b)
    exact ⟨ts, ps, fun E env M hw => (hp hw.1).elim⟩
end
end Dw
set_option Elab.async false
set_option linter.all false
set_option maxRecDepth 100000
set_option maxHeartbeats 4000000
/-! DwE: enumerate over tuples and lists. -/
namespace Dw
open PySem PySem.Spec PyProof.Rows L2
section
open PySem.W PySem.Calls
set_option maxHeartbeats 4000000 in
theorem meets_enum1 {v : Value} {o : Obj} {H : Heap → Prop} (B : Begins v o H) :
    Meets (Builtin.«enumerate.__new__» ⟨[.type "enumerate", v], []⟩) (fun _ R s => H s.heap ∧
      R (.ok (.ret (.ref (s.heap.push o).objs.size))) { s with heap := (s.heap.push o).push { cls := .type "enumerate", data := .fields #[.none, .bool false, .ref s.heap.objs.size, rawInt 0, .none, .none] } }) :=
  .of_wp fun prog w A R s h => by
    obtain ⟨hp, g, d, tk, os⟩ := s; obtain ⟨h1, h⟩ := h
    have hsub := sub_enumerate
    have q1 : ∀ {A' : Around} {E : Value → Shared → Prop} {Q : Value → Shared → Prop}, Q (.ref hp.objs.size) ⟨hp.push o, g, d, tk, os⟩ → wpAny (model prog w) A' (pyIter v) Q E ⟨hp, g, d, tk, os⟩ :=
      fun q => B.iter prog w _ _ ⟨hp, g, d, tk, os⟩ _ h1 q
    wp_walk using q1
    refine wpAny_stack_any fun st => wpAny_pure ?_
    split
    · rename_i c _ _ _ _ _
      cases (c == Value.type "enumerate")
      · wp_walk using q1
        exact ⟨_, rfl, h⟩
      · wp_walk using q1
        exact ⟨_, rfl, h⟩
    · wp_walk using q1
      exact ⟨_, rfl, h⟩
theorem call_enumerate_tuple {prog : Program} {w : World} {A : Around} {E : Value → Shared → Prop} {s : Shared} {l : Addr} {items : Array Value} {Q : Value → Shared → Prop} (hL : s.heap.IsTuple l items)
    (h : ∀ h', IsEnum h' (s.heap.objs.size + 1) s.heap.objs.size 0 .none → h'.IsTupleIter s.heap.objs.size l 0 → h'.objs.size = s.heap.objs.size + 2 →
      (∀ b o, s.heap.get? b = some o → h'.get? b = some o) → Q (.ref (s.heap.objs.size + 1)) { s with heap := h' }) :
    wpAny (model prog w) A (call (.type "enumerate") [.ref l]) Q E s := by
  have B := begins_tuple l items
  refine callType_new F.called_enumerate (by decide) (F.typeCall_enumerate_1 _) (F.newCall_enumerate_1 _) (fun obj => F.args_object_init_2 obj _) F.entry_enumerate_new
    (meets_enum1 B) ⟨hL, ?_⟩
  generalize ho : ({ cls := .type "tuple_iterator", data := .fields #[.ref l, .int 0 0] } : Obj) = o at B
  have hz : (s.heap.push o).objs.size = s.heap.objs.size + 1 := Heap.size_push ..
  show _ ∧ _
  rw [hz]
  have he : IsEnum ((s.heap.push o).push { cls := .type "enumerate", data := .fields #[.none, .bool false, .ref s.heap.objs.size, rawInt 0, .none, .none] }) (s.heap.objs.size + 1) s.heap.objs.size 0 .none := by
    have := Heap.get?_push_size (s.heap.push o) (o := { cls := .type "enumerate", data := .fields #[.none, .bool false, .ref s.heap.objs.size, rawInt 0, .none, .none] }) rfl
    rw [hz] at this; exact this
  refine ⟨⟨_, he, rfl⟩, h _ he ⟨o, Heap.get?_push_of_some _ (Heap.get?_push_size _ B.free), by rw [← ho], by rw [← ho]; rfl⟩ (by rw [Heap.size_push, hz]) fun b o x => Heap.get?_push_of_some _ (Heap.get?_push_of_some _ x)⟩
end
def IteT (K : PySem.W.Frag) (a : Addr) : It :=
  ⟨fun i H => ∃ (xs : List V) (x : V), SqT K H a xs ∧ xs[i]? = some x, fun i H v H' => ∃ T x, v = .ref T ∧ H T = none ∧ H' = upd H T (.tup [.int (i : Nat), x]) ∧ ∀ xs, SqT K H a xs → xs[i]? = some x, fun i H => ∃ xs : List V, SqT K H a xs ∧ xs.length ≤ i⟩
theorem turn_enumT {P : Program} {w : World} {K : PySem.W.Frag} {elts : List Expr} {kk : Nat} {tpos : Pos} (a e it : Addr) :
    Turn P w K (.Tuple elts kk tpos) (IteT K a) [e, it] e (fun i h => (∃ old, IsEnum h e it ((i : Nat) : Int) old) ∧ h.IsTupleIter it a i ∧ e ≠ it) where
  mem := by simp
  obj := fun i h st b hb => by
    obtain ⟨⟨old, he⟩, ⟨o, ho, hc, hd⟩, _⟩ := st
    have e' : b = e ∨ b = it := by simpa using hb
    rcases e' with z | z
    · subst z
      exact ⟨_, he, fun v z => by
        have z' : Data.fields _ = Data.cell v := z
        cases z'⟩
    · subst z
      exact ⟨o, ho, fun v z => by rw [hd] at z; cases z⟩
  keep := fun i h h' st k => by
    obtain ⟨⟨old, he⟩, hit, hne⟩ := st
    exact ⟨⟨old, k e (by simp) _ he⟩, hit.at fun o x => k it (by simp) o x, hne⟩
  item := by
    intro X hP hw hK hc i pins s σ H E I hf st hg
    subst hP hw hK
    obtain ⟨⟨old, he⟩, hit, hne⟩ := st
    obtain ⟨xs, x, hq, hx⟩ := hg
    obtain ⟨its, rv, p, hz⟩ := I.tuple hq
    obtain ⟨u, hu, ru⟩ := rv.get hx
    have hel : e < s.heap.objs.size := Heap.lt_size he
    have hil : it < s.heap.objs.size := by obtain ⟨_, q, _⟩ := hit; exact Heap.lt_size q
    have hpt : s.heap.IsTuple a its.toArray := p
    have hai : a ≠ it := by
      obtain ⟨o1, g1, c1, _⟩ := hpt
      obtain ⟨o2, g2, c2, _⟩ := hit
      intro z
      subst z
      rw [g1] at g2
      cases g2
      rw [c1] at c2
      injection c2 with c3
      exact absurd c3 (by decide)
    have hilt : i < its.toArray.size := by
      rw [List.size_toArray]
      exact (List.getElem?_eq_some_iff.mp hu).1
    have hea : e ∉ [it, a] := by
      intro z
      rcases (by simpa using z : e = it ∨ e = a) with z | z
      · exact hne z
      · subst z
        obtain ⟨o1, g1, c1, _⟩ := hpt
        rw [he] at g1
        cases g1
        have c2 : Value.type "enumerate" = Value.type "tuple" := c1
        injection c2 with c3
        exact absurd c3 (by decide)
    refine wpAny_pyNext_enum_itemD (Draws.tuple (A := X.A.in1) (show X.A.in1.handled = none from I.ok.hd hc) it a hai its.toArray) he ⟨hit, hpt⟩ hilt hne hea fun y h' tk hy ho hst hT hsz hk => ?_
    have ey : y = u := by
      have h1 : its.toArray[i]? = some u := by simpa using hu
      rw [h1] at hy
      exact (Option.some.inj hy).symm
    subst ey
    refine ⟨_, rfl, wpAny_letOwnedTupleGo_enum (s := { s with heap := h', toks := tk + 1 }) ho fun h'' he' sb => ?_⟩
    have hT2 : h''.get? s.heap.objs.size = some { cls := .type "tuple", data := .seq #[.int i tk, y] } := (sb.2 _ (Nat.ne_of_gt hel)).trans hT
    have new : ObjOk X.prog X.w (upd H s.heap.objs.size (.tup [.int (i : Nat), x])) h'' s.heap.objs.size (.tup [.int (i : Nat), x]) :=
      ⟨by show 2 ≤ sizeLine; decide, [.int i tk, y], .cons ⟨_, rfl⟩ (.cons ru .nil), ⟨_, hT2, rfl, _, rfl⟩⟩
    have I1 : Inv X pins σ (upd H s.heap.objs.size (.tup [.int (i : Nat), x])) { s with heap := h'', toks := tk + 1 } :=
      I.turnedNew (ch := [e, it]) (fun b ob hb q => (sb.2 b (fun z => hb (by simp [z]))).trans (hk b ob (fun z => hb (by simp [z])) (fun z => hb (by simp [z])) q)) hf (Nat.le_refl _) new
    refine ⟨.ref s.heap.objs.size, _, I1, rfl, ⟨_, x, rfl, I.hok.fresh (Nat.le_refl _), rfl, fun ys hy => by rw [I.tuple_inj hy hq]; exact hx⟩, ⟨⟨y, ?_⟩, hst.1.at fun o q => (sb.2 it (Ne.symm hne)).trans q, hne⟩, fun b hb => ?_⟩
    · have e1 : ((i + 1 : Nat) : Int) = (i : Int) + 1 := by omega
      rw [e1]; exact he'
    · have hb' : b < s.heap.objs.size := by
        have e' : b = e ∨ b = it := by simpa using hb
        rcases e' with z | z
        · rw [z]; exact hel
        · rw [z]; exact hil
      rw [upd_ne (Nat.ne_of_lt hb')]
      exact (hf b hb).1
  done := by
    intro X hP hw hK hc i pins s σ H E I hf st hg
    subst hP hw hK
    obtain ⟨⟨old, he⟩, hit, hne⟩ := st
    obtain ⟨xs, hq, hx⟩ := hg
    obtain ⟨its, rv, p, hz⟩ := I.tuple hq
    obtain ⟨f0, f1, f2, f3, f4, f5⟩ := hf it (by simp)
    have hl := rv.length
    have hpt : s.heap.IsTuple a its.toArray := p
    have hT : s.TypeIs (.ref e) "enumerate" := ⟨_, he, rfl⟩
    unfold pyNext
    refine wpAny_bind (wpAny_attempt (wpAny_callSpecial?_slot (name := Str.ofString "__next__") hT F.slot_enumerate_next
      (wpAny_call_entry F.slot_enumerate_next hT F.entry_enumerate_next ?_ (F.args_enumerate_next_1 _))))
    show wpAny _ _ (field (.ref e) 2 >>= _) _ _ _
    refine wpAny_bind (wpAny_field he rfl (x := .ref it) rfl ?_)
    refine wpAny_bind (wpAny_nextOf_tuple_end (show X.A.in1.handled = none from I.ok.hd hc) hit hpt (by simp; omega) fun h' x' he' hx' => ?_)
    obtain ⟨o, ho, hc2⟩ := hx'
    refine wpAny_bind (wpAny_isInstance (T := "StopIteration") (b := true) ⟨o, ho, hc2⟩ isSubtype_stop ?_)
    refine wpAny_pure ?_
    exact ⟨rfl, I.turned (t' := s.toks) (fun b o hb e => he' b o hb e) f0 f1 f3 f4 f5⟩
  self := fun A i s Q E st h => let ⟨⟨_, he⟩, _⟩ := st; wpAny_pyIter_enum he h
def iEnumT (K : PySem.W.Frag) (ta : TA) : TI := fun σ H R => ta σ H fun vs H1 => ∃ a xs, vs = [.ref a] ∧ ((SqT K H1 a xs ∧ R (IteT K a) H1) ∨ (SqL K H1 a xs ∧ R (Ite K a) H1))
theorem pi_enumT {X : Cx} {e : Expr} {ta : TA} {p pos tpos : Pos} {elts : List Expr} {kk : Nat} (hg : Gl X "enumerate") (hm : X.mg "enumerate" = none) (ha : PA X [e] ta) (hs : starEach [e] X.env = [(false, eval e X.env)] := by rfl) :
    PI X (.Tuple elts kk tpos) (.Call (.Name "enumerate" p) [e] [] pos) (iEnumT X.K ta) := by
  refine ⟨fun pins s σ H R I h => ?_⟩
  refine Call_ (ld_blt I hg hm boot_enumerate (PyProof.Rows.callWith_type1 (thn (ha.run pos pins s σ H _ I h) fun us s1 ⟨vs, H1, I1, r1, q1⟩ => ?_) hs rfl))
  obtain ⟨a, xs, ex, q⟩ := q1
  subst ex
  cases r1 with
  | cons r rr =>
    cases rr
    cases r
    rcases q with ⟨hq, q⟩ | ⟨hq, q⟩
    · obtain ⟨its, rv, p', hz⟩ := I1.tuple hq
      have hpt : s1.heap.IsTuple a its.toArray := p'
      refine call_enumerate_tuple hpt fun h' he hit hsz hk => wpAny_pyIter_enum he ?_
      have I2 : Inv X pins σ H1 { s1 with heap := h' } := I1.kept (t' := s1.toks) hk
      refine ⟨s1.heap.objs.size + 1, [s1.heap.objs.size + 1, s1.heap.objs.size], _, _, H1, rfl, I2, turn_enumT a (s1.heap.objs.size + 1) s1.heap.objs.size, ⟨⟨.none, he⟩, hit, Nat.succ_ne_self _⟩, fun b hb => ?_, q⟩
      have e' : b = s1.heap.objs.size + 1 ∨ b = s1.heap.objs.size := by simpa using hb
      have hle : s1.heap.objs.size ≤ b := by
        rcases e' with z | z
        · rw [z]; exact Nat.le_add_right _ _
        · rw [z]; exact Nat.le_refl _
      exact I1.fpOk hle (I1.hok.fresh hle)
    · obtain ⟨its, rv, p', hz⟩ := I1.list hq
      refine call_enumerate_list p'.isList fun h' he hit hsz hk => wpAny_pyIter_enum he ?_
      have I2 : Inv X pins σ H1 { s1 with heap := h' } := I1.kept (t' := s1.toks) hk
      refine ⟨s1.heap.objs.size + 1, [s1.heap.objs.size + 1, s1.heap.objs.size], _, _, H1, rfl, I2, turn_enum a (s1.heap.objs.size + 1) s1.heap.objs.size, ⟨⟨.none, he⟩, hit, Nat.succ_ne_self _⟩, fun b hb => ?_, q⟩
      have e' : b = s1.heap.objs.size + 1 ∨ b = s1.heap.objs.size := by simpa using hb
      have hle : s1.heap.objs.size ≤ b := by
        rcases e' with z | z
        · rw [z]; exact Nat.le_add_right _ _
        · rw [z]; exact Nat.le_refl _
      exact I1.fpOk hle (I1.hok.fresh hle)
/-! ### over data -/
def enumD (ds : List D) : List D := List.zipWith (fun (i : Nat) d => .tup [.int i, d]) (List.range ds.length) ds
theorem enumD_len (ds : List D) : (enumD ds).length = ds.length := by unfold enumD; simp
theorem enumD_at (ds : List D) (i : Nat) : (enumD ds)[i]? = (ds[i]?).map fun d => .tup [.int i, d] := by
  unfold enumD
  rw [List.getElem?_zipWith]
  by_cases h : i < ds.length
  · rw [List.getElem?_range h, List.getElem?_eq_getElem h]; rfl
  · rw [List.getElem?_eq_none (l := ds) (by omega)]
    cases (List.range ds.length)[i]? <;> rfl
theorem enumD_get {ds : List D} {i : Nat} {d : D} (h : (enumD ds)[i]? = some d) : ∃ x, ds[i]? = some x ∧ d = .tup [.int i, x] := by
  rw [enumD_at] at h
  cases e : ds[i]? with
  | none => rw [e] at h; cases h
  | some x => rw [e] at h; cases h; exact ⟨x, rfl, rfl⟩
def iEn (ws : WA) : WI := fun env M Q => ws env M fun rs M1 => ∃ x, rs = [.d x] ∧ ∃ ds, x.items = some ds ∧ Q (enumD ds) M1
section
variable {J : Bs} {X : Cx} {e : Expr} {ws : WA} {p pos : Pos}
theorem qi_enum {elts : List Expr} {kk : Nat} {tpos : Pos} (hg : Gl X "enumerate") (hm : X.mg "enumerate" = none) (h : QA J X [e] ws) (hs : starEach [e] X.env = [(false, eval e X.env)] := by rfl) : QI J X (.Tuple elts kk tpos) (.Call (.Name "enumerate" p) [e] [] pos) (iEn ws) := by
  obtain ⟨ta, pa, da⟩ := h
  refine ⟨_, pi_enumT hg hm pa hs, fun env M Q hw S A σ H R st en k => ?_⟩
  refine da env M _ hw S A σ H _ st en fun vs H1 rs M1 A1 p1 s1 q1 ⟨x, er, ds, ed, hq⟩ => ?_
  subst er
  obtain ⟨v, us, rfl, rv, r3⟩ := q1
  cases r3
  cases x with
  | tup es =>
    cases ed
    obtain ⟨a, xs, rfl, g1, g2⟩ := rv
    refine ⟨a, xs, rfl, .inl ⟨same_t off_sub g1, k _ H1 _ M1 A1 p1 s1 (fun S' A' H' sm tr => ?_) hq⟩⟩
    have h1 : SqT X.K H' a xs := same_t (sm.trans off_sub) g1
    have h2 := Reps.mono sm _ _ g2
    refine ⟨fun i d e => ?_, fun i hi => ⟨xs, h1, by rw [h2.len, ← enumD_len]; exact hi⟩⟩
    obtain ⟨x, ex, rfl⟩ := enumD_get e
    obtain ⟨u, e1, e2⟩ := h2.get ex
    refine ⟨⟨xs, u, h1, e1⟩, fun y H2 z => ?_⟩
    obtain ⟨T, u', rfl, hT, rfl, z⟩ := z
    have := z xs h1
    rw [e1] at this
    cases this
    exact ⟨same_upd hT, rep_pair (x := .int i) (show Rep X.K _ (.int i) (.int i) from rfl) e2 hT tr⟩
  | lst es =>
    cases ed
    obtain ⟨a, xs, rfl, g1, g2⟩ := rv
    refine ⟨a, xs, rfl, .inr ⟨same_l off_sub g1, k _ H1 _ M1 A1 p1 s1 (fun S' A' H' sm tr => ?_) hq⟩⟩
    have h1 : SqL X.K H' a xs := same_l (sm.trans off_sub) g1
    have h2 := Reps.mono sm _ _ g2
    refine ⟨fun i d e => ?_, fun i hi => ⟨xs, h1, by rw [h2.len, ← enumD_len]; exact hi⟩⟩
    obtain ⟨x, ex, rfl⟩ := enumD_get e
    obtain ⟨u, e1, e2⟩ := h2.get ex
    refine ⟨⟨xs, u, h1, e1⟩, fun y H2 z => ?_⟩
    obtain ⟨T, u', rfl, hT, rfl, z⟩ := z
    have := z xs h1
    rw [e1] at this
    cases this
    exact ⟨same_upd hT, rep_pair (x := .int i) (show Rep X.K _ (.int i) (.int i) from rfl) e2 hT tr⟩
  | _ => cases ed
end
end Dw
set_option Elab.async false
set_option linter.all false
set_option maxRecDepth 100000
set_option maxHeartbeats 4000000
/-! DwF: dict comprehensions (a dict that may change), min and max of data, remove. -/
namespace Dw
open PySem PySem.Spec PyProof.Rows L2
def wDcL (wg : WG) (wt : WT) (wk wv : WE) (env : Env') : List D → Mem → List (Key × D) → (List (Key × D) → Mem → Prop) → Prop
  | [], M, acc, Q => Q acc M
  | d :: ds, M, acc, Q => ∃ N : Mem → List (Key × D) → Prop, (∀ m a, N m a → wDcL wg wt wk wv env ds m a Q) ∧ wg (.d d) env M fun env1 M1 => wt env1 M1 fun b M2 =>
      if b = true then wk env1 M2 fun y M3 => ∃ q, y = .d q ∧ ∃ key, keyD q = some key ∧ wv env1 M3 fun z M4 => ∃ x, z = .d x ∧ N M4 (dPutK acc key x) else N M2 acc
def wDc (wi : WI) (wg : WG) (wt : WT) (wk wv : WE) (vs : List Nat) : WE := fun env M Q => wi env M fun ds M1 => ds.length ≤ sizeLine ∧ wDcL wg wt wk wv (wipeE env vs) ds M1 [] fun acc M2 => Q (.o M2.length) (M2 ++ [.dic acc])
theorem dPutK_len (kvs : List (Key × D)) (k : Key) (d : D) : (dPutK kvs k d).length ≤ kvs.length + 1 := by
  unfold dPutK
  split
  · rw [List.length_map]; omega
  · rw [List.length_append]; simp
section
variable {X : Cx} {K : PySem.W.Frag}
theorem dn_dc {ti : TI} {g : TG} {tt : TT} {tk tv : TE} {wi : WI} {wg : WG} {wt : WT} {wk wv : WE} {vs ss : List Nat} (hi : DnI J K ti wi) (hg : DnG J K ss g wg) (ht : DnT J K tt wt) (hk : Dn J K tk wk) (hv : Dn J K tv wv) (hs : ∀ i ∈ ss, i ∈ vs) : Dn J K (tDc ti g tt tk tv vs) (wDc wi wg wt wk wv vs) := by
  intro env M Q hw S A σ H R st en k
  refine hi env M _ hw S A σ H _ st en fun J H1 ds M1 A1 p1 s1 wlk ⟨hz, hw1⟩ => ?_
  intro D0 hD
  have fr := s1.fresh hD
  have nS : D0 ∉ S := fun z => fr (List.mem_append_left _ z)
  have nA : D0 ∉ A1 := fun z => fr (List.mem_append_right _ z)
  have sub : ∀ (A : List Addr) (H : Hp), Same (view (D0 :: S) A H) (view S A H) := fun A H => off_less fun a ha => List.mem_cons_of_mem _ ha
  have v0 : Same (view S A1 H1) (view (D0 :: S) A1 (upd H1 D0 (.dK []))) := fun b x e => by
    obtain ⟨n, q⟩ := off_some e
    have hb : b ≠ D0 := ne_of_none q hD
    refine off_of (fun z => ?_) (by rw [upd_ne hb]; exact q)
    rcases List.mem_cons.mp z with z | z
    · exact hb z
    · exact n z
  have st0 : Sto K (D0 :: S) A1 (upd H1 D0 (.dK [])) M1 := by
    refine ⟨s1.len, s1.nd, fun a ha z => ?_, fun a ha => ?_, fun i mo a h1 h2 => ?_⟩
    · rcases List.mem_cons.mp z with z | z
      · exact nA (z ▸ ha)
      · exact s1.dj a ha z
    · rcases List.mem_cons.mp ha with rfl | ha
      · exact ⟨_, upd_same⟩
      · obtain ⟨o, e⟩ := s1.trk a ha
        exact ⟨o, by rw [upd_ne (ne_of_none e hD)]; exact e⟩
    · refine (s1.mem i mo a h1 h2).to (upd_ne (fun (z : a = D0) => nA (by rw [← z]; exact List.mem_of_getElem? h2))) v0
  refine ⟨fun i m H2 => m = ds.length - i ∧ i ≤ ds.length ∧ ∃ M2 A2 acc xs, A1 <+: A2 ∧ Same (view S A1 H1) (view (D0 :: S) A2 H2) ∧ (∀ a ∈ S, H2 a = H1 a) ∧ Sto K (D0 :: S) A2 H2 M2 ∧ H2 D0 = some (.dK xs) ∧ RepD K (view (D0 :: S) A2 H2) acc xs ∧ acc.length ≤ i ∧
      wDcL wg wt wk wv (wipeE env vs) (ds.drop i) M2 acc (fun acc M2 => Q (.o M2.length) (M2 ++ [.dic acc])), ⟨ds.length, by simp, Nat.zero_le _, M1, A1, [], [], List.prefix_refl _, v0, fun a ha => upd_ne (fun (z : a = D0) => nS (by rw [← z]; exact ha)), st0, upd_same, ⟨rfl, rfl⟩, by simp, by simpa using hw1⟩, ?_⟩
  rintro i m H2 ⟨rfl, hil, M2, A2, acc, xs, pre, vw, hid, st2, hD2, rp, hal, hw2⟩
  obtain ⟨wk1, wk2⟩ := wlk (D0 :: S) A2 H2 vw st2.trk'
  by_cases hlt : i < ds.length
  · have hd : ds[i]? = some ds[i] := List.getElem?_eq_getElem hlt
    obtain ⟨go, yl⟩ := wk1 i _ hd
    refine .inr ⟨go, fun H' => i + 1 ≤ ds.length ∧ ∃ M2 A2 acc xs, A1 <+: A2 ∧ Same (view S A1 H1) (view (D0 :: S) A2 H') ∧ (∀ a ∈ S, H' a = H1 a) ∧ Sto K (D0 :: S) A2 H' M2 ∧ H' D0 = some (.dK xs) ∧ RepD K (view (D0 :: S) A2 H') acc xs ∧ acc.length ≤ i + 1 ∧
      wDcL wg wt wk wv (wipeE env vs) (ds.drop (i + 1)) M2 acc (fun acc M2 => Q (.o M2.length) (M2 ++ [.dic acc])), fun H' q => ⟨ds.length - (i + 1), by omega, rfl, q⟩, fun x H3 yd => ?_⟩
    obtain ⟨sm, rx⟩ := yl x H3 yd
    have st3 := st2.grow sm
    have p3 := st2.post sm
    rw [List.drop_eq_getElem_cons hlt] at hw2
    obtain ⟨N, hN, hw2⟩ := hw2
    have en3 : EnvOk _ K (D0 :: S) A2 H3 (wipeE env vs) (wipe σ vs) := ((en.mono p1).wipe vs).to pre (vw.trans p3.view) (fun a ha => List.mem_cons_of_mem _ ha) (fun a ha => (p3.hid a (List.mem_cons_of_mem _ ha)).trans (hid a ha))
    refine hg _ _ _ _ hw2 (D0 :: S) A2 (wipe σ vs) H3 x _ st3 en3 rx fun σ4 H4 env4 M4 A4 p4 s4 e4 wp hw4 => ?_
    have wp' : wipe σ4 vs = wipe σ vs := by
      rw [wp vs hs]
      have : ∀ ws us : List Nat, (∀ i ∈ us, i ∈ ws) → wipe (wipe σ us) ws = wipe σ ws := by
        intro ws us
        induction us with
        | nil => intro _; rfl
        | cons u us ih =>
          intro hu
          show wipe ((wipe σ us).set u none) ws = _
          rw [wipe_set (hu u List.mem_cons_self)]
          exact ih fun i hi => hu i (List.mem_cons_of_mem _ hi)
      exact this vs vs fun i hi => hi
    refine ⟨wp', ?_⟩
    refine ht _ _ _ hw4 (D0 :: S) A4 σ4 H4 _ s4 e4 fun b H5 M5 A5 p5 s5 hw5 => ?_
    have pp := (p3.trans p4).trans p5
    have hid5 : ∀ a ∈ S, H5 a = H1 a := fun a ha => (pp.hid a (List.mem_cons_of_mem _ ha)).trans (hid a ha)
    have hD5 : H5 D0 = some (.dK xs) := (pp.hid D0 List.mem_cons_self).trans hD2
    have mp : ∀ {h h' : Hp} {kvs : List (Key × D)} {us : List (Key × V)}, Same h h' → RepD K h kvs us → RepD K h' kvs us := fun e r => ⟨r.1, Reps.mono e _ _ r.2⟩
    cases b with
    | false =>
      exact ⟨hlt, M5, A5, acc, xs, pre.trans pp.pre, vw.trans pp.view, hid5, s5, hD5, mp pp.view rp, by omega, hN _ _ hw5⟩
    | true =>
      refine hk _ _ _ hw5 (D0 :: S) A5 σ4 H5 _ s5 (e4.mono p5) fun y H6 ry M6 A6 p6 s6 q6 ⟨q, eq, key, ek, hw6⟩ => ?_
      subst eq
      have eky := keyD_rep ek q6
      refine hv _ _ _ hw6 (D0 :: S) A6 σ4 H6 _ s6 ((e4.mono p5).mono p6) fun z H7 rz M7 A7 p7 s7 q7 ⟨x, ez, hw7⟩ => ?_
      subst ez
      have pp6 := (pp.trans p6).trans p7
      have hD7 : H7 D0 = some (.dK xs) := (p7.hid D0 List.mem_cons_self).trans ((p6.hid D0 List.mem_cons_self).trans hD5)
      have rp7 : RepD K (view (D0 :: S) A7 H7) acc xs := mp pp6.view rp
      refine ⟨xs, key, eky, hD7, by rw [rp7.len]; omega, hlt, ?_⟩
      have vset : view (D0 :: S) A7 (upd H7 D0 (.dK (putK xs key z))) = view (D0 :: S) A7 H7 := by
        funext b
        unfold view off
        by_cases e : b ∈ D0 :: S ++ A7
        · rw [if_pos e, if_pos e]
        · rw [if_neg e, if_neg e, upd_ne (fun z => e (by rw [z]; exact List.mem_cons_self))]
      have nA7 : D0 ∉ A7 := fun z => s7.dj D0 z List.mem_cons_self
      refine ⟨M7, A7, dPutK acc key x, putK xs key z, pre.trans pp6.pre, by rw [vset]; exact vw.trans pp6.view, fun a ha => ?_, ?_, upd_same, ?_, Nat.le_trans (dPutK_len _ _ _) (by omega), hN _ _ hw7⟩
      · rw [upd_ne (fun (z : a = D0) => nS (by rw [← z]; exact ha))]
        exact (p7.hid a (List.mem_cons_of_mem _ ha)).trans ((p6.hid a (List.mem_cons_of_mem _ ha)).trans (hid5 a ha))
      · refine ⟨s7.len, s7.nd, s7.dj, fun a ha => ?_, fun j mo a h1 h2 => ?_⟩
        · by_cases e : a = D0
          · subst e; exact ⟨_, upd_same⟩
          · rw [upd_ne e]; exact s7.trk a ha
        · exact (s7.mem j mo a h1 h2).to (upd_ne (fun (z : a = D0) => nA7 (by rw [← z]; exact List.mem_of_getElem? h2))) (by rw [vset]; exact Same.refl _)
      · rw [vset]
        exact RepD.put key q7 rp7
  · have e : i = ds.length := by omega
    subst e
    refine .inl ⟨wk2 _ (Nat.le_refl _), ?_⟩
    rw [List.drop_length] at hw2
    have hw3 : Q (.o M2.length) (M2 ++ [.dic acc]) := hw2
    have nA2 : D0 ∉ A2 := fun z => st2.dj D0 z List.mem_cons_self
    have sb : Same (view (D0 :: S) A2 H2) (view S (A2 ++ [D0]) H2) := off_less fun a ha => by
      simp at ha ⊢
      rcases ha with h | h | h
      · exact .inr (.inl h)
      · exact .inr (.inr h)
      · exact .inl h
    refine k (.ref D0) H2 (.o M2.length) (M2 ++ [.dic acc]) (A2 ++ [D0]) (p1.trans ⟨pre.trans (List.prefix_append _ _), vw.trans sb, hid⟩) ⟨by simp [st2.len], ?_, fun a ha z => ?_, fun a ha => st2.trk a (List.mem_cons_of_mem _ ha), fun j mo a h1 h2 => ?_⟩ ⟨D0, ?_, rfl⟩ hw3
    · rw [List.nodup_append]
      exact ⟨st2.nd, by simp, fun a ha b hb e => nA2 (by rw [List.mem_singleton] at hb; rw [← hb, ← e]; exact ha)⟩
    · rcases List.mem_append.mp ha with ha | ha
      · exact st2.dj a ha (List.mem_cons_of_mem _ z)
      · rw [List.mem_singleton] at ha; rw [ha] at z; exact nS z
    · by_cases hj : j < A2.length
      · rw [List.getElem?_append_left hj] at h2
        rw [List.getElem?_append_left (by rw [← st2.len]; exact hj)] at h1
        exact (st2.mem j mo a h1 h2).to rfl sb
      · have hj' : j = A2.length := by
          have := (List.getElem?_eq_some_iff.mp h2).1
          simp at this; omega
        subst hj'
        rw [List.getElem?_append_right (Nat.le_refl _), Nat.sub_self] at h2
        rw [List.getElem?_append_right (by rw [st2.len]; exact Nat.le_refl _), ← st2.len, Nat.sub_self] at h1
        cases h1
        cases h2
        exact ⟨xs, hD2, rp.1, Reps.mono sb _ _ rp.2⟩
    · rw [← st2.len, List.getElem?_append_right (Nat.le_refl _), Nat.sub_self]; rfl
end
section
variable {J : Bs} {X : Cx} {n0 : Nat} {kx vx tg iter : Expr} {wk wv : WE} {wt : WT} {wi : WI} {wg : WG} {ss : List Nat} {pos : Pos} {ifs : List Expr} {scope : Scope} {own : List (Str × Nat)}
theorem qe_dc (hc : X.calm = true) (hN : X.N.Nodup) (hi : QI J X tg iter wi) (ok : BlkOk X.N X.env.scope scope own) (hss : ∀ i ∈ ss, i ∈ own.map (·.2))
    (hg : ∀ (s : Shared) (H : Hp) (C : Addr) (cl : List (Str × Addr)) (fp : List Addr), QG J (X.blk s H scope (compEnvC scope cl C X.env) fp) ss tg wg)
    (ht : ∀ (s : Shared) (H : Hp) (C : Addr) (cl : List (Str × Addr)) (fp : List Addr), QTs J (X.blk s H scope (compEnvC scope cl C X.env) fp) ifs wt)
    (hk : ∀ (s : Shared) (H : Hp) (C : Addr) (cl : List (Str × Addr)) (fp : List Addr), QE J (X.blk s H scope (compEnvC scope cl C X.env) fp) kx wk)
    (hv : ∀ (s : Shared) (H : Hp) (C : Addr) (cl : List (Str × Addr)) (fp : List Addr), QE J (X.blk s H scope (compEnvC scope cl C X.env) fp) vx wv) (hs : ∀ x, foldedSetIterable iter X.env x = pure x := by intro _; rfl) :
    QE J X (.DictComp kx vx [⟨tg, iter, ifs, 0⟩] scope pos) (wDc wi wg wt wk wv (own.map (·.2))) := by
  obtain ⟨ti, pi, di⟩ := hi
  exact ⟨_, pe_dc hc hN pi ok (g := canG J X.K ss wg) (tt := canT J X.K wt) (tk := canE J X.K wk) (tv := canE J X.K wv) (fun s H C cl fp => (hg s H C cl fp).pg) (fun s H C cl fp => (ht s H C cl fp).pts) (fun s H C cl fp => (hk s H C cl fp).pe) (fun s H C cl fp => (hv s H C cl fp).pe) hs, dn_dc di dng_can dnt_can dn_can dn_can hss⟩
theorem ps_setDc {i : Nat} {y : Str} {py : Pos} {spos : Pos} {ti : TI} {g : TG} {tt : TT} {tk tv : TE} (hc : X.calm = true) (hN : X.N.Nodup) (hy : X.N[i]? = some y) (hyl : X.env.scope.names.lookup y = some .local)
    (hsw : swapsWith (.DictComp kx vx [⟨tg, iter, ifs, 0⟩] scope pos) (some (.Name y py)) spos.line X.env = pure true) (hi : PI X tg iter ti) (ok : BlkOk X.N X.env.scope scope own)
    (hg : ∀ (s : Shared) (H : Hp) (C : Addr) (cl : List (Str × Addr)) (fp : List Addr), PG (X.blk s H scope (compEnvC scope cl C X.env) fp) tg g) (ht : ∀ (s : Shared) (H : Hp) (C : Addr) (cl : List (Str × Addr)) (fp : List Addr), PTs (X.blk s H scope (compEnvC scope cl C X.env) fp) ifs tt)
    (hk : ∀ (s : Shared) (H : Hp) (C : Addr) (cl : List (Str × Addr)) (fp : List Addr), PE (X.blk s H scope (compEnvC scope cl C X.env) fp) kx tk)
    (he : ∀ (s : Shared) (H : Hp) (C : Addr) (cl : List (Str × Addr)) (fp : List Addr), PE (X.blk s H scope (compEnvC scope cl C X.env) fp) vx tv) (hs : ∀ x, foldedSetIterable iter X.env x = pure x := by intro _; rfl) :
    PS X (.Assign [.Name y py] (.DictComp kx vx [⟨tg, iter, ifs, 0⟩] scope pos) spos) (tAsg (tDc ti g tt tk tv (own.map (·.2))) (gName i)) := by
  refine ⟨fun pins s σ H D I h => ?_⟩
  rw [exec_Assign_Name_used _ _ _ _ hsw]
  refine wpAny_bind (wpAny_standAt (wpAny_bind ?_))
  show wpAny _ X.A (do let _ ← comprehension (.DictComp kx vx [⟨tg, iter, ifs, 0⟩] scope pos) scope X.env (firstIterPos [⟨tg, iter, ifs, 0⟩] pos) newDict false (eval iter X.env) (some (assign (.Name y py) X.env))) _ _ s
  have h : tDc ti g tt tk tv (own.map (·.2)) σ H (fun x H1 => gName i x σ H1 D.nx) := h
  refine wpAny_bind (thn (dc_core (Qf := fun _ s' => SP X pins D .next s') hc hN I hi ok hg ht hk he hs h fun L C s' m H' I' q hn f => ?_) fun _ s' hq => wpAny_pure (wpAny_pure hq))
  show wpAny _ _ (assign (.Name y py) X.env (.ref L)) _ _ _
  refine wpAny_assign_Name (store_ok2 (v := V.ref L) I' hN hy (.inl hyl) rfl (fun s2 I2 ⟨a, sb, ha⟩ => ?_) (.inr hyl))
  obtain ⟨f0, f1, f2, f3, f4, f5⟩ := f
  have haC : C ≠ a := by
    rcases ha with z | z
    · rw [z]; exact f1
    · exact fun e => f4 y a z e.symm
  refine ⟨m, hn.sameBut sb haC, fun h3 sb3 => ?_⟩
  exact ⟨_, H', I2.turned (t' := s2.toks) (fun b o hb e => (sb3.2 b hb).trans e) f0 f1 f3 f4 f5, q⟩
theorem sw_trueD {gs : List Comprehension} {pos py : Pos} {y : Str} {l : Nat} {env : Env} (hk : env.scope.kind = .function) (hy : env.scope.names.lookup y = some .local) (hl : (py.line == pos.line) = true)
    (ha : (scope.names.any fun (n, k) => n == y && (k == .local || k == .cell)) = false) : swapsWith (.DictComp kx vx gs scope pos) (some (.Name y py)) l env = pure true := by
  have ky : env.kindOf y = some .local := hy
  have hb : env.blockKind = .function := by unfold Env.blockKind; rw [hk]; rfl
  unfold swapsWith
  simp only [hb,ky,ha,Expr.pos,hl]
  rfl
theorem qs_setDc {i : Nat} {y : Str} {py spos : Pos} (hc : X.calm = true) (hN : X.N.Nodup) (hy : X.N[i]? = some y) (hyl : X.env.scope.names.lookup y = some .local)
    (hsw : swapsWith (.DictComp kx vx [⟨tg, iter, ifs, 0⟩] scope pos) (some (.Name y py)) spos.line X.env = pure true) (hi : QI J X tg iter wi) (ok : BlkOk X.N X.env.scope scope own) (hss : ∀ i ∈ ss, i ∈ own.map (·.2))
    (hg : ∀ (s : Shared) (H : Hp) (C : Addr) (cl : List (Str × Addr)) (fp : List Addr), QG J (X.blk s H scope (compEnvC scope cl C X.env) fp) ss tg wg)
    (ht : ∀ (s : Shared) (H : Hp) (C : Addr) (cl : List (Str × Addr)) (fp : List Addr), QTs J (X.blk s H scope (compEnvC scope cl C X.env) fp) ifs wt)
    (hk : ∀ (s : Shared) (H : Hp) (C : Addr) (cl : List (Str × Addr)) (fp : List Addr), QE J (X.blk s H scope (compEnvC scope cl C X.env) fp) kx wk)
    (hv : ∀ (s : Shared) (H : Hp) (C : Addr) (cl : List (Str × Addr)) (fp : List Addr), QE J (X.blk s H scope (compEnvC scope cl C X.env) fp) vx wv) (hs : ∀ x, foldedSetIterable iter X.env x = pure x := by intro _; rfl) :
    QS J X n0 (.Assign [.Name y py] (.DictComp kx vx [⟨tg, iter, ifs, 0⟩] scope pos) spos) (sSet i (wDc wi wg wt wk wv (own.map (·.2)))) := by
  obtain ⟨ti, pi, di⟩ := hi
  exact ⟨_, ps_setDc hc hN hy hyl hsw pi ok (g := canG J X.K ss wg) (tt := canT J X.K wt) (tk := canE J X.K wk) (tv := canE J X.K wv) (fun s H C cl fp => (hg s H C cl fp).pg) (fun s H C cl fp => (ht s H C cl fp).pts) (fun s H C cl fp => (hk s H C cl fp).pe) (fun s H C cl fp => (hv s H C cl fp).pe) hs, dns_set (dn_dc di dng_can dnt_can dn_can dn_can hss)⟩
/-! ### the reading of a dict comprehension -/
theorem dc_inv {wg : WG} {wt : WT} {wk wv : WE} {env : Env'} {Q : List (Key × D) → Mem → Prop} (I : Nat → Mem → List (Key × D) → Prop) : ∀ (ds : List D) (k : Nat) {M : Mem} {acc : List (Key × D)}, I k M acc →
    (∀ (i : Nat) (d : D) (M : Mem) (acc : List (Key × D)), ds[i]? = some d → I (k + i) M acc → wg (.d d) env M fun env1 M1 => wt env1 M1 fun b M2 =>
      if b = true then wk env1 M2 fun y M3 => ∃ q, y = .d q ∧ ∃ key, keyD q = some key ∧ wv env1 M3 fun z M4 => ∃ x, z = .d x ∧ I (k + i + 1) M4 (dPutK acc key x) else I (k + i + 1) M2 acc) →
    (∀ M acc, I (k + ds.length) M acc → Q acc M) → wDcL wg wt wk wv env ds M acc Q
  | [], k, M, acc, h0, hs, hd => hd M acc h0
  | d :: ds, k, M, acc, h0, hs, hd => ⟨I (k + 1), fun m a h => dc_inv I ds (k + 1) h (fun i d M acc hd hi => by
      have := hs (i + 1) d M acc (by simpa using hd) (by rw [show k + (i + 1) = k + 1 + i by omega]; exact hi)
      rw [show k + (i + 1) + 1 = k + 1 + i + 1 by omega] at this
      exact this) (fun M acc h => hd M acc (by rw [List.length_cons, show k + (ds.length + 1) = k + 1 + ds.length by omega]; exact h)), hs 0 d M acc rfl h0⟩
end
end Dw
set_option Elab.async false
set_option linter.all false
set_option maxRecDepth 100000
set_option maxHeartbeats 4000000
/-! DwG: min and max of rows of data (the item itself), default=; list.remove of data. -/
namespace Dw
open PySem PySem.Spec PyProof.Rows L2
/-- data that are told apart by == and < -/
structure DatOk (ps : List PyData) : Prop where
  alike : PySem.W.AlikeAll ps
  lay : PyData.canLayAll0 ps = true
  few : PyData.depthAll ps ≤ 64
abbrev Pick := PyData → List PyData → PyData
def rBest (K : PySem.W.Frag) (f : Pick) : List V → Hp → VK → Prop := fun vs H Q => ∃ (a : Addr) (xs : List V) (p : PyData) (ps : List PyData), vs = [V.ref a] ∧ (SqL K H a xs ∨ SqT K H a xs) ∧ DpAll K H xs (p :: ps) ∧ DatOk (p :: ps) ∧
  ∀ (i : Nat) (x : V), xs[i]? = some x → (p :: ps)[i]? = some (f p ps) → Q x H
theorem readsAll_ix {h : Heap} : ∀ {vs : List Value} {ps : List PyData} {as : List Addr}, ReadsAll h vs ps as → ∀ (i : Nat) (v : Value), vs[i]? = some v → ∃ p bs, ps[i]? = some p ∧ Reads h v p bs
  | _, _, _, .nil, i, v, h => by simp at h
  | _, _, _, .cons r rs, 0, v, h => by
    cases h
    exact ⟨_, _, rfl, r⟩
  | _, _, _, .cons r rs, i + 1, v, h => by
    obtain ⟨p, bs, e1, e2⟩ := readsAll_ix rs i v (by simpa using h)
    exact ⟨p, bs, by simpa using e1, e2⟩
theorem canLay_at : ∀ {ps : List PyData} {i : Nat} {p : PyData}, PyData.canLayAll0 ps = true → ps[i]? = some p → p.canLay0 = true
  | [], i, p, _, h => by simp at h
  | q :: ps, i, p, hc, h => by
    rw [PyData.canLayAll0, Bool.and_eq_true] at hc
    cases i with
    | zero => cases h; exact hc.1
    | succ i => exact canLay_at hc.2 (by simpa using h)
section
variable {X : Cx}
theorem pick_at {pins : List (Addr × Obj)} {σ : L2.St} {H : Hp} {s : Shared} {xs : List V} {us : List Value} {ps : List PyData} {i : Nat} {v : Value} {h' : Heap} {m : PyData} {bs : List Addr} (I : Inv X pins σ H s) (hd : DpAll X.K H xs ps) (rv : Vals xs us) (hc : PyData.canLayAll0 ps = true)
    (hv : us[i]? = some v) (hr : Reads h' v m bs) (hk : ∀ b o, s.heap.get? b = some o → h'.get? b = some o) : ∃ x, xs[i]? = some x ∧ RelV x v ∧ ps[i]? = some m := by
  obtain ⟨as, rs⟩ := Dp.readsAll I ps xs us hd rv
  obtain ⟨p, cs, e1, e2⟩ := readsAll_ix rs i v hv
  have e : p = m := (Reads.unique (PyProof.Rows.Reads.keeps hk e2) m bs hr).1
  have hi : i < xs.length := by have h1 := (List.getElem?_eq_some_iff.mp hv).1; have h2 := rv.length; omega
  have hx : xs[i]? = some xs[i] := List.getElem?_eq_getElem hi
  obtain ⟨u, e3, e4⟩ := rv.get hx
  rw [hv] at e3
  cases e3
  exact ⟨xs[i], hx, e4, by rw [e1, e]⟩
theorem cr_minD (hc : X.calm = true) (hu : X.A.units + 70 < cLine) : CallR X (.builtin "min") (rBest X.K PySem.W.minD) := by
  intro pins s σ H vs us Q I r h
  obtain ⟨a, xs, p, ps, rfl, hx, hd, ok, q⟩ := h
  rw [Vals.ref1 r]
  have u2 : X.A.units + 1 + PyData.depthAll (p :: ps) < cLine := by have := ok.few; omega
  rcases hx with hx | hx
  · obtain ⟨its, rv, hl, _⟩ := I.list hx
    obtain ⟨as, rs⟩ := Dp.readsAll I _ _ _ hd rv
    refine PySem.W.min_list_data (I.ok.hd hc) hl.isList (by simpa using rs) ok.alike u2 fun i v h' tk bs e1 e2 hk => ?_
    obtain ⟨x, f1, f2, f3⟩ := pick_at I hd rv ok.lay (by simpa using e1) e2 hk
    exact ⟨x, H, I.kept hk, f2, q i x f1 f3⟩
  · obtain ⟨its, rv, hl, _⟩ := I.tuple hx
    obtain ⟨as, rs⟩ := Dp.readsAll I _ _ _ hd rv
    refine PySem.W.min_tuple_data (I.ok.hd hc) (show s.heap.IsTuple a its.toArray from hl) (by simpa using rs) ok.alike u2 fun i v h' tk bs e1 e2 hk => ?_
    obtain ⟨x, f1, f2, f3⟩ := pick_at I hd rv ok.lay (by simpa using e1) e2 hk
    exact ⟨x, H, I.kept hk, f2, q i x f1 f3⟩
theorem cr_maxD (hc : X.calm = true) (hu : X.A.units + 70 < cLine) : CallR X (.builtin "max") (rBest X.K PySem.W.maxD) := by
  intro pins s σ H vs us Q I r h
  obtain ⟨a, xs, p, ps, rfl, hx, hd, ok, q⟩ := h
  rw [Vals.ref1 r]
  have u2 : X.A.units + 1 + PyData.depthAll (p :: ps) < cLine := by have := ok.few; omega
  rcases hx with hx | hx
  · obtain ⟨its, rv, hl, _⟩ := I.list hx
    obtain ⟨as, rs⟩ := Dp.readsAll I _ _ _ hd rv
    refine PySem.W.max_list_data (I.ok.hd hc) hl.isList (by simpa using rs) ok.alike u2 fun i v h' tk bs e1 e2 hk => ?_
    obtain ⟨x, f1, f2, f3⟩ := pick_at I hd rv ok.lay (by simpa using e1) e2 hk
    exact ⟨x, H, I.kept hk, f2, q i x f1 f3⟩
  · obtain ⟨its, rv, hl, _⟩ := I.tuple hx
    obtain ⟨as, rs⟩ := Dp.readsAll I _ _ _ hd rv
    refine PySem.W.max_tuple_data (I.ok.hd hc) (show s.heap.IsTuple a its.toArray from hl) (by simpa using rs) ok.alike u2 fun i v h' tk bs e1 e2 hk => ?_
    obtain ⟨x, f1, f2, f3⟩ := pick_at I hd rv ok.lay (by simpa using e1) e2 hk
    exact ⟨x, H, I.kept hk, f2, q i x f1 f3⟩
/-- with default=d -/
def rBestDf (K : PySem.W.Frag) (f : Pick) : List V → List V → Hp → VK → Prop := fun vs zs H Q => ∃ (a : Addr) (xs : List V) (ps : List PyData) (d : V), vs = [V.ref a] ∧ zs = [d] ∧ (SqL K H a xs ∨ SqT K H a xs) ∧ DpAll K H xs ps ∧ DatOk ps ∧
  (ps = [] → Q d H) ∧ ∀ (p : PyData) (qs : List PyData) (i : Nat) (x : V), ps = p :: qs → xs[i]? = some x → ps[i]? = some (f p qs) → Q x H
theorem cr_maxDf (hc : X.calm = true) (hu : X.A.units + 70 < cLine) : CallRK X (.builtin "max") [Str.ofString "default"] (rBestDf X.K PySem.W.maxD) := by
  intro pins s σ H vs zs us ws Q I r rz h
  obtain ⟨a, xs, ps, d, rfl, rfl, hx, hd, ok, q0, q⟩ := h
  rw [Vals.ref1 r]
  obtain ⟨dv, rfl, rd⟩ := rz.one
  have u2 : X.A.units + 1 + PyData.depthAll ps < cLine := by have := ok.few; omega
  rcases hx with hx | hx
  · obtain ⟨its, rv, hl, _⟩ := I.list hx
    obtain ⟨as, rs⟩ := Dp.readsAll I _ _ _ hd rv
    refine PySem.W.max_list_default (I.ok.hd hc) hl.isList (by simpa using rs) ok.alike u2 (fun e h' tk hk => ⟨d, H, I.kept hk, rd, q0 e⟩) fun y ys i v h' tk bs ey e1 e2 hk => ?_
    obtain ⟨x, f1, f2, f3⟩ := pick_at I hd rv ok.lay (by simpa using e1) e2 hk
    exact ⟨x, H, I.kept hk, f2, q y ys i x ey f1 f3⟩
  · obtain ⟨its, rv, hl, _⟩ := I.tuple hx
    obtain ⟨as, rs⟩ := Dp.readsAll I _ _ _ hd rv
    refine PySem.W.max_tuple_default (I.ok.hd hc) (show s.heap.IsTuple a its.toArray from hl) (by simpa using rs) ok.alike u2 (fun e h' tk hk => ⟨d, H, I.kept hk, rd, q0 e⟩) fun y ys i v h' tk bs ey e1 e2 hk => ?_
    obtain ⟨x, f1, f2, f3⟩ := pick_at I hd rv ok.lay (by simpa using e1) e2 hk
    exact ⟨x, H, I.kept hk, f2, q y ys i x ey f1 f3⟩
end
/-! ### over data -/
mutual
theorem py_inj : ∀ (d e : D) (p : PyData), d.py = some p → e.py = some p → d = e
  | .non, e, p, h1, h2 => by
    simp [D.py] at h1; subst h1
    cases e with
    | tup es => simp [D.py] at h2
    | lst es => simp [D.py] at h2
    | _ => first | rfl | simp [D.py] at h2
  | .bl b, e, p, h1, h2 => by
    simp [D.py] at h1; subst h1
    cases e with
    | bl c => simp [D.py] at h2; rw [h2]
    | tup es => simp [D.py] at h2
    | lst es => simp [D.py] at h2
    | _ => simp [D.py] at h2
  | .int i, e, p, h1, h2 => by
    simp [D.py] at h1; subst h1
    cases e with
    | int j => simp [D.py] at h2; rw [h2]
    | tup es => simp [D.py] at h2
    | lst es => simp [D.py] at h2
    | _ => simp [D.py] at h2
  | .str x, e, p, h1, h2 => by
    simp [D.py] at h1; subst h1
    cases e with
    | str y => simp [D.py] at h2; rw [h2]
    | tup es => simp [D.py] at h2
    | lst es => simp [D.py] at h2
    | _ => simp [D.py] at h2
  | .ty n, e, p, h1, _ => by simp [D.py] at h1
  | .ref a, e, p, h1, _ => by simp [D.py] at h1
  | .tup ds, e, p, h1, h2 => by
    cases z : D.pys ds with
    | none => simp [D.py, z] at h1
    | some ps =>
      simp [D.py, z] at h1; subst h1
      cases e with
      | tup es =>
        cases y : D.pys es with
        | none => simp [D.py, y] at h2
        | some qs =>
          simp [D.py, y] at h2
          rw [pys_inj ds es ps z (by rw [y, h2])]
      | lst es => simp [D.py] at h2
      | _ => simp [D.py] at h2
  | .lst ds, e, p, h1, h2 => by
    cases z : D.pys ds with
    | none => simp [D.py, z] at h1
    | some ps =>
      simp [D.py, z] at h1; subst h1
      cases e with
      | lst es =>
        cases y : D.pys es with
        | none => simp [D.py, y] at h2
        | some qs =>
          simp [D.py, y] at h2
          rw [pys_inj ds es ps z (by rw [y, h2])]
      | tup es => simp [D.py] at h2
      | _ => simp [D.py] at h2
theorem pys_inj : ∀ (ds es : List D) (ps : List PyData), D.pys ds = some ps → D.pys es = some ps → ds = es
  | [], [], _, _, _ => rfl
  | [], e :: es, ps, h1, h2 => by
    simp [D.pys] at h1; subst h1
    cases z : D.py e with
    | none => simp [D.pys, z] at h2
    | some p =>
      cases y : D.pys es with
      | none => simp [D.pys, z, y] at h2
      | some qs => simp [D.pys, z, y] at h2
  | d :: ds, [], ps, h1, h2 => by
    simp [D.pys] at h2; subst h2
    cases z : D.py d with
    | none => simp [D.pys, z] at h1
    | some p =>
      cases y : D.pys ds with
      | none => simp [D.pys, z, y] at h1
      | some qs => simp [D.pys, z, y] at h1
  | d :: ds, e :: es, ps, h1, h2 => by
    cases z : D.py d with
    | none => simp [D.pys, z] at h1
    | some p =>
      cases y : D.pys ds with
      | none => simp [D.pys, z, y] at h1
      | some qs =>
        simp [D.pys, z, y] at h1; subst h1
        cases z2 : D.py e with
        | none => simp [D.pys, z2] at h2
        | some p2 =>
          cases y2 : D.pys es with
          | none => simp [D.pys, z2, y2] at h2
          | some qs2 =>
            simp [D.pys, z2, y2] at h2
            rw [py_inj d e p z (by rw [z2, h2.1]), pys_inj ds es qs y (by rw [y2, h2.2])]
end
theorem pys_at : ∀ {ds : List D} {ps : List PyData} {i : Nat} {d : D}, D.pys ds = some ps → ds[i]? = some d → ∃ p, ps[i]? = some p ∧ d.py = some p
  | [], ps, i, d, h, e => by simp at e
  | x :: ds, ps, i, d, h, e => by
    cases z : D.py x with
    | none => simp [D.pys, z] at h
    | some p =>
      cases y : D.pys ds with
      | none => simp [D.pys, z, y] at h
      | some qs =>
        simp [D.pys, z, y] at h; subst h
        cases i with
        | zero => cases e; exact ⟨p, rfl, z⟩
        | succ i =>
          obtain ⟨p', e1, e2⟩ := pys_at (i := i) y (by simpa using e)
          exact ⟨p', by simpa using e1, e2⟩
def fBest (f : Pick) (ds : List D) (z : D) : Prop := ∃ x es p ps, ds = [x] ∧ x.items = some es ∧ D.pys es = some (p :: ps) ∧ DatOk (p :: ps) ∧ z.py = some (f p ps)
theorem cd_best {K : PySem.W.Frag} {f : Pick} : CallD K (rBest K f) (fBest f) := by
  intro S A M H ds z vs R st q e k
  obtain ⟨x, es, p, ps, rfl, ei, ep, ok, ez⟩ := e
  obtain ⟨v, rfl, q1⟩ := q.one
  obtain ⟨a, us, rfl, h1, h2⟩ := q1.items off_sub ei
  refine ⟨a, us, p, ps, rfl, h1, Reps.dp off_sub es us _ h2 ep, ok, fun i y hy hp => ?_⟩
  have hi : i < es.length := by rw [← h2.len]; exact (List.getElem?_eq_some_iff.mp hy).1
  obtain ⟨u, e1, e2⟩ := h2.get (List.getElem?_eq_getElem hi)
  rw [hy] at e1
  cases e1
  obtain ⟨p', g1, g2⟩ := pys_at ep (List.getElem?_eq_getElem hi)
  rw [hp] at g1
  cases g1
  rw [py_inj z es[i] _ ez g2] at k
  exact k y H (Same.refl _) e2
/-- a built-in called with one argument and default=d -/
def wBestDf (f : Pick) (we wd : WE) : WE := fun env M Q => we env M fun r M1 => wd env M1 fun r2 M2 => ∃ x, r.dat M2 = some x ∧ ∃ d, r2 = .d d ∧ ∃ es ps, x.items = some es ∧ D.pys es = some ps ∧ DatOk ps ∧ ∃ z, (match ps with | [] => z = d | p :: qs => z.py = some (f p qs)) ∧ Q (.d z) M2
section
variable {J : Bs} {X : Cx} {e e2 : Expr} {we wd : WE} {ws : WA} {p pos kp : Pos}
theorem qe_minD (hc : X.calm = true) (hu : X.A.units + 70 < cLine) (hg : Gl X "min") (hm : X.mg "min" = none) (ha : QA J X [e] ws) (he : starEach [e] X.env = (false, eval e X.env) :: starEach [] X.env := by rfl) (hpl : (backTo pos (starEach [] X.env)).any (·.1) = false := by rfl) : QE J X (.Call (.Name "min" p) [e] [] pos) (wCB (fBest PySem.W.minD) ws) :=
  qe_cb (cr_minD hc hu) cd_best hg hm (by first | rfl | decide +kernel) ha (by decide) (by decide) he hpl
theorem qe_maxD (hc : X.calm = true) (hu : X.A.units + 70 < cLine) (hg : Gl X "max") (hm : X.mg "max" = none) (ha : QA J X [e] ws) (he : starEach [e] X.env = (false, eval e X.env) :: starEach [] X.env := by rfl) (hpl : (backTo pos (starEach [] X.env)).any (·.1) = false := by rfl) : QE J X (.Call (.Name "max" p) [e] [] pos) (wCB (fBest PySem.W.maxD) ws) :=
  qe_cb (cr_maxD hc hu) cd_best hg hm (by first | rfl | decide +kernel) ha (by decide) (by decide) he hpl
theorem dn_bestDf {f : Pick} {te td : TE} (h1 : Dn J X.K te we) (h2 : Dn J X.K td wd) : Dn J X.K (tCKw (rBestDf X.K f) (tCons te tNil) (tCons td tNil)) (wBestDf f we wd) := by
  intro env M Q hw S A σ H R st en k
  refine h1 env M _ hw S A σ H _ st en fun v H1 r M1 A1 p1 s1 q1 hw1 => ?_
  refine h2 env M1 _ hw1 S A1 σ H1 _ s1 (en.mono p1) fun v2 H2 r2 M2 A2 p2 s2 q2 ⟨x, ex, d, ed, es, ps, ei, ep, ok, z, ez, hq⟩ => ?_
  subst ed
  have rx := s2.dat (q1.mono p2) ex
  obtain ⟨a, us, rfl, g1, g2⟩ := rx.items off_sub ei
  have pp := p1.trans p2
  refine ⟨a, us, ps, v2, rfl, rfl, g1, Reps.dp off_sub es us _ g2 ep, ok, fun e0 => ?_, fun p qs i y e0 hy hp => ?_⟩
  · subst e0
    have ez : z = d := ez
    subst ez
    exact k v2 H2 (.d z) M2 A2 pp s2 q2 hq
  · subst e0
    have ez : z.py = some (f p qs) := ez
    have hi : i < es.length := by rw [← g2.len]; exact (List.getElem?_eq_some_iff.mp hy).1
    obtain ⟨u, e1, e2⟩ := g2.get (List.getElem?_eq_getElem hi)
    rw [hy] at e1
    cases e1
    obtain ⟨p', f1, f2⟩ := pys_at ep (List.getElem?_eq_getElem hi)
    rw [hp] at f1
    cases f1
    have eq := py_inj z es[i] _ ez f2
    subst eq
    exact k y H2 (.d _) M2 A2 pp s2 e2 hq
theorem qe_maxDf (hc : X.calm = true) (hu : X.A.units + 70 < cLine) (hg : Gl X "max") (hm : X.mg "max" = none) (h1 : QE J X e we) (h2 : QE J X e2 wd) 
    (he : backTo pos (starEach [e] X.env) = (false, eval e X.env) :: backTo pos (starEach [] X.env) := by rfl) (hpl : (backTo pos (starEach [e] X.env)).any (·.1) = false := by rfl)
    (hall : (backToKw pos (keywordEach [⟨some "default", e2, kp⟩] X.env)).all (·.1.isSome) = true := by rfl) (hnone : (backToKw pos (keywordEach [⟨some "default", e2, kp⟩] X.env)).any (·.1.isNone) = false := by rfl) (hks : (backToKw pos (keywordEach [⟨some "default", e2, kp⟩] X.env)).filterMap (·.1) = [Str.ofString "default"] := by rfl) (hs : starEach [e] X.env = (false, eval e X.env) :: starEach [] X.env := by rfl) :
    QE J X (.Call (.Name "max" p) [e] [⟨some "default", e2, kp⟩] pos) (wBestDf PySem.W.maxD we wd) := by
  obtain ⟨te, pe, de⟩ := h1
  obtain ⟨td, pd, dd⟩ := h2
  exact ⟨_, pe_callBK (cr_maxDf hc hu) hg hm (by first | rfl | decide +kernel) (pa_cons pe pa_nil hs) (pk_cons pd pk_nil) (by decide) (by decide) he hpl hall hnone hks, dn_bestDf de dd⟩
/-! ### xs.remove(e) -/
open PySem.SeqAt in
def rRemD (K : PySem.W.Frag) : V → List V → Hp → VK → Prop := fun x xs H Q => ∃ (l : Addr) (ys : List V) (y : V) (ps : List PyData) (p : PyData) (j : Nat), x = .ref l ∧ xs = [y] ∧ H l = some (.lst ys) ∧ DpAll K H ys ps ∧ Dp K H y p ∧ PyData.plainAll ps = true ∧ p.plain = true ∧ PyData.depthAll ps ≤ 64 ∧ dataPlace ps p = some j ∧ Q .non (upd H l (.lst (ys.eraseIdx j)))
theorem mt_removeD (hu : X.A.units + 70 < cLine) : MtM X "list.remove" (rRemD X.K) := by
  intro pins s σ H x xs v us Q I rx rxs h
  obtain ⟨l, ys, y, ps, p, j, rfl, rfl, hH, hd, hp, pl, pl2, few, hj, q⟩ := h
  cases rx
  obtain ⟨u, rfl, ru⟩ := rxs.one
  obtain ⟨z, its, n, r, hl, e⟩ := I.lstM hH
  obtain ⟨as, rs⟩ := Dp.readsAll I _ _ _ hd r
  obtain ⟨bs, ry⟩ := Dp.reads I _ _ _ hp ru
  have hil : s.heap.IsList l its.toArray := ⟨_, e, rfl, _, rfl⟩
  refine PySem.SeqAt.remove_list_data hil (by simpa using rs) ry pl pl2 (by have : min (PyData.depthAll ps) p.depth ≤ PyData.depthAll ps := Nat.min_le_left _ _; omega) hj (by rw [List.size_toArray]; omega) ?_
  refine ⟨.non, _, I.lset (its' := its.eraseIdx j) hH e ?_ (r.eraseIdx j) ?_, rfl, q⟩
  · show its.toArray.eraseIdxIfInBounds j = (its.eraseIdx j).toArray
    rw [List.eraseIdxIfInBounds_toArray]
  · have := List.length_eraseIdx_le ys j
    omega
open PySem.SeqAt in
def wRem (wo we : WE) : WE := fun env M Q => wo env M fun o M1 => ∃ k, o = .o k ∧ (∃ mo0, M1[k]? = some mo0 ∧ ∃ ds0, mo0.ls = some ds0) ∧ we env M1 fun r M2 => ∃ mo, M2[k]? = some mo ∧ ∃ ds, mo.ls = some ds ∧ ∃ d, r = .d d ∧ ∃ ps p j, D.pys ds = some ps ∧ d.py = some p ∧ (PyData.plainAll ps = true ∧ p.plain = true ∧ PyData.depthAll ps ≤ 64) ∧ dataPlace ps p = some j ∧ Q (.d .non) (M2.set k (mo.put (ds.eraseIdx j)))
theorem qe_remove {o : Expr} {wo : WE} {apos : Pos} (hu : X.A.units + 70 < cLine) (ho : QE J X o wo) (he : QE J X e we) (hbase : attributeBase o "remove" X.env (eval o X.env) = eval o X.env := by rfl)
    (hfew : ((backTo pos (starEach [e] X.env)).all (fun x => !x.1) && (backToKw pos (keywordEach [] X.env)).all (fun x => x.1.isSome)
      && decide (([e] : List Expr).length + ([] : List Keyword).length + (if ([] : List Keyword).isEmpty then 0 else 1) < 30)) = true := by rfl)
    (hline : (apos.endLine == pos.line) = true := by rfl) (hs : starEach [e] X.env = (false, eval e X.env) :: starEach [] X.env := by rfl) (hplain : (backTo pos (starEach [] X.env)).any (·.1) = false := by rfl) :
    QE J X (.Call (.Attribute o "remove" apos) [e] [] pos) (wRem wo we) := by
  obtain ⟨to, po, do_⟩ := ho
  obtain ⟨te, pe, de⟩ := he
  refine ⟨_, pe_bm PySem.F.plainAttrs_list PySem.F.slot_list_remove PySem.F.type_list_remove (mt_removeD hu) po (pa_cons pe pa_nil hs) hbase hfew hline hs hplain, fun env M Q hw S A σ H R st en k => ?_⟩
  refine do_ env M _ hw S A σ H _ st en fun v H1 o1 M1 A1 p1 s1 q1 ⟨i, e1, ⟨mo0, e2, ds0, e2'⟩, hw1⟩ => ?_
  subst e1
  obtain ⟨x, hx, rfl⟩ := q1
  obtain ⟨vs0, g0, _⟩ := (s1.mem i _ x e2 hx).lsD e2'
  refine ⟨.inl ⟨rfl, vs0, .inl (.inl g0)⟩, ?_⟩
  refine de env M1 _ hw1 S A1 σ H1 _ s1 (en.mono p1) fun u H2 r M2 A2 p2 s2 q2 ⟨mo, e3, ds, e3', d, e4, ps, p, j, f1, f2, ⟨f3, f4, f5⟩, f6, hq⟩ => ?_
  subst e4
  have hx2 : A2[i]? = some x := by
    obtain ⟨t, ht⟩ := p2.pre
    rw [← ht, List.getElem?_append_left (List.getElem?_eq_some_iff.mp hx).1]
    exact hx
  obtain ⟨vs, g1, g2⟩ := (s2.mem i _ x e3 hx2).lsD e3'
  refine ⟨x, vs, u, ps, p, j, rfl, rfl, g1, Reps.dp off_sub ds vs ps g2 f1, Rep.dp off_sub d u p q2 f2, f3, f4, f5, f6, ?_⟩
  obtain ⟨s4, p4⟩ := s2.set (o := .lst (vs.eraseIdx j)) (mo := mo.put (ds.eraseIdx j)) hx2 ((s2.mem i _ x e3 hx2).put e3' upd_same (by rw [view_set (List.mem_of_getElem? hx2)]; exact Reps.eraseIdx g2 j))
  exact k .non _ (.d .non) _ A2 ((p1.trans p2).trans p4) s4 (show V.non = V.non from rfl) hq
end
end Dw
set_option Elab.async false
set_option linter.all false
set_option maxRecDepth 100000
set_option maxHeartbeats 4000000
/-! DwH: [..] * n and list(range(..)) as lists that change; list(range(..)) as data. -/
namespace Dw
open PySem PySem.Spec PyProof.Rows L2
section
variable {K : PySem.W.Frag} {S A : List Addr} {H : Hp} {M : Mem}
theorem Sto.hide (s : Sto K S A H M) {p : Addr} {o : HO} (h : H p = none) : Sto K (p :: S) A (upd H p o) M ∧ Same (view S A H) (view (p :: S) A (upd H p o)) ∧ p ∉ S ∧ p ∉ A := by
  have fr := s.fresh h
  have nS : p ∉ S := fun z => fr (List.mem_append_left _ z)
  have nA : p ∉ A := fun z => fr (List.mem_append_right _ z)
  have v0 : Same (view S A H) (view (p :: S) A (upd H p o)) := fun b x e => by
    obtain ⟨n, q⟩ := off_some e
    have hb : b ≠ p := ne_of_none q h
    refine off_of (fun z => ?_) (by rw [upd_ne hb]; exact q)
    rcases List.mem_cons.mp z with z | z
    · exact hb z
    · exact n z
  refine ⟨⟨s.len, s.nd, fun a ha z => ?_, fun a ha => ?_, fun i mo a h1 h2 => ?_⟩, v0, nS, nA⟩
  · rcases List.mem_cons.mp z with z | z
    · exact nA (z ▸ ha)
    · exact s.dj a ha z
  · rcases List.mem_cons.mp ha with rfl | ha
    · exact ⟨_, upd_same⟩
    · obtain ⟨o', e⟩ := s.trk a ha
      exact ⟨o', by rw [upd_ne (ne_of_none e h)]; exact e⟩
  · exact (s.mem i mo a h1 h2).to (upd_ne (fun (z : a = p) => nA (by rw [← z]; exact List.mem_of_getElem? h2))) v0
end
/-- [a, ..] * n -/
def wRepL (ws : WA) (wb : WE) : WE := fun env M Q => ws env M fun rs M1 => ∃ ds, ds? rs = some ds ∧ ds.length ≤ sizeLine ∧ wb env M1 fun r M2 => ∃ n, r = .d (.int n) ∧ (-(2 ^ 63) ≤ n ∧ n < 2 ^ 63) ∧ ds.length * n.toNat ≤ sizeLine ∧ Q (.o M2.length) (M2 ++ [.lst (List.replicate n.toNat ds).flatten])
section
variable {J : Bs} {X : Cx} {es : List Expr} {e b : Expr} {ws : WA} {wb we : WE} {p pos lpos : Pos}
theorem qe_repL (ha : QA J X es ws) (hb : QE J X b wb) : QE J X (.BinOp (.List es lpos) .Mult b pos) (wRepL ws wb) := by
  obtain ⟨ta, pa, da⟩ := ha
  obtain ⟨tb, pb, db⟩ := hb
  refine ⟨_, pe_op op_rep (pe_lst pa) pb, fun env M Q hw S A σ H R st en k => ?_⟩
  refine da env M _ hw S A σ H _ st en fun vs H1 rs M1 A1 p1 s1 q1 ⟨ds, e, hz, hw1⟩ => ?_
  have r := q1.data e
  refine ⟨by rw [r.len]; exact hz, fun l hl => ?_⟩
  obtain ⟨s2, v0, nS, nA⟩ := s1.hide (o := .lst vs) hl
  have en2 : EnvOk _ X.K (l :: S) A1 (upd H1 l (.lst vs)) env σ := (en.mono p1).to (List.prefix_refl _) v0 (fun a ha => List.mem_cons_of_mem _ ha) (fun a ha => upd_ne fun z => nS (z ▸ ha))
  refine db env M1 _ hw1 (l :: S) A1 σ _ _ s2 en2 fun v H3 r3 M3 A3 p3 s3 q3 ⟨n, en', ⟨b1, b2⟩, hz2, hq⟩ => ?_
  subst en'
  cases q3
  have hl3 : H3 l = some (.lst vs) := (p3.hid l List.mem_cons_self).trans upd_same
  refine ⟨l, n, vs, rfl, rfl, hl3, b1, b2, by rw [r.len]; exact hz2, fun q hq3 => ?_⟩
  have r3 : Reps X.K (view (l :: S) A3 H3) (List.replicate n.toNat ds).flatten (List.replicate n.toNat vs).flatten := Reps.rep (Reps.mono (v0.trans p3.view) _ _ r) _
  obtain ⟨s4, p4⟩ := s3.new (mo := .lst (List.replicate n.toNat ds).flatten) (o := .lst (List.replicate n.toNat vs).flatten) hq3 ⟨_, upd_same, Reps.mono (view_new hq3) _ _ r3⟩
  have pp := p3.trans p4
  have sb : ∀ (A : List Addr) (H : Hp), Same (view (l :: S) A H) (view S A H) := fun A H => off_less fun a ha => List.mem_cons_of_mem _ ha
  refine k (.ref q) _ (.o M3.length) _ (A3 ++ [q]) (p1.trans ⟨pp.pre, (v0.trans pp.view).trans (sb _ _), fun a ha => (pp.hid a (List.mem_cons_of_mem _ ha)).trans (upd_ne fun z => nS (z ▸ ha))⟩)
    ⟨s4.len, s4.nd, fun a ha z => s4.dj a ha (List.mem_cons_of_mem _ z), fun a ha => s4.trk a (List.mem_cons_of_mem _ ha), fun i mo a h1 h2 => (s4.mem i mo a h1 h2).to rfl (sb _ _)⟩ ⟨q, by rw [← s3.len, List.getElem?_append_right (Nat.le_refl _)]; simp, rfl⟩ hq
/-! ### list(range(..)) -/
theorem reps_rg {h : Hp} {K : PySem.W.Frag} (a b : Int) : Reps K h (rngD a (b - a).toNat) (rgV a b) := by
  have : ∀ l : List Nat, Reps K h (l.map fun i => D.int (a + (i : Nat))) (l.map fun i => V.int (a + (i : Nat))) := by
    intro l
    induction l with
    | nil => rfl
    | cons x l ih => exact ⟨_, _, rfl, rfl, ih⟩
  exact this _
def wListRgO (wa : WE) : WE := fun env M Q => wa env M fun r M1 => ∃ n, r = .d (.int n) ∧ (0 ≤ n ∧ n ≤ 16777216) ∧ Q (.o M1.length) (M1 ++ [.lst (rngD 0 n.toNat)])
def wListRg (wa : WE) : WE := fun env M Q => wa env M fun r M1 => ∃ n, r = .d (.int n) ∧ (0 ≤ n ∧ n ≤ 16777216) ∧ Q (.d (.lst (rngD 0 n.toNat))) M1
variable {p2 pos2 : Pos}
theorem qe_listRgO (hc : X.calm = true) (hg : Gl X "list") (hm : X.mg "list" = none) (hg2 : Gl X "range") (hm2 : X.mg "range" = none) (ha : QE J X e we)
    (na : starEach [.Call (.Name "range" p2) [e] [] pos2] X.env = (false, eval (.Call (.Name "range" p2) [e] [] pos2) X.env) :: starEach [] X.env := by rfl) (na2 : starEach [e] X.env = (false, eval e X.env) :: starEach [] X.env := by rfl) :
    QE J X (.Call (.Name "list" p) [.Call (.Name "range" p2) [e] [] pos2] [] pos) (wListRgO we) := by
  obtain ⟨te, pe, de⟩ := ha
  refine ⟨_, pe_listRg hc hg hm (prg_1 hg2 hm2 pe na2) na, fun env M Q hw S A σ H R st en k => ?_⟩
  refine de env M _ hw S A σ H _ st en fun v H1 r M1 A1 p1 s1 q1 ⟨n, en', ⟨b1, b2⟩, hq⟩ => ?_
  subst en'
  cases q1
  refine ⟨n, rfl, RgOk.of_le (by omega) (by omega) (by omega) (by omega), fun l hl => ?_⟩
  have rr : Reps X.K (view S A1 H1) (rngD 0 n.toNat) (rgV 0 n) := by have := reps_rg (K := X.K) (h := view S A1 H1) 0 n; rwa [Int.sub_zero] at this
  obtain ⟨s2, p2⟩ := s1.new (mo := .lst (rngD 0 n.toNat)) (o := .lst (rgV 0 n)) hl ⟨_, upd_same, Reps.mono (view_new hl) _ _ rr⟩
  exact k _ _ (.o M1.length) _ _ (p1.trans p2) s2 ⟨l, by rw [← s1.len, List.getElem?_append_right (Nat.le_refl _)]; simp, rfl⟩ hq
theorem qe_listRg (hc : X.calm = true) (hg : Gl X "list") (hm : X.mg "list" = none) (hg2 : Gl X "range") (hm2 : X.mg "range" = none) (ha : QE J X e we)
    (na : starEach [.Call (.Name "range" p2) [e] [] pos2] X.env = (false, eval (.Call (.Name "range" p2) [e] [] pos2) X.env) :: starEach [] X.env := by rfl) (na2 : starEach [e] X.env = (false, eval e X.env) :: starEach [] X.env := by rfl) :
    QE J X (.Call (.Name "list" p) [.Call (.Name "range" p2) [e] [] pos2] [] pos) (wListRg we) := by
  obtain ⟨te, pe, de⟩ := ha
  refine ⟨_, pe_listRg hc hg hm (prg_1 hg2 hm2 pe na2) na, fun env M Q hw S A σ H R st en k => ?_⟩
  refine de env M _ hw S A σ H _ st en fun v H1 r M1 A1 p1 s1 q1 ⟨n, en', ⟨b1, b2⟩, hq⟩ => ?_
  subst en'
  cases q1
  refine ⟨n, rfl, RgOk.of_le (by omega) (by omega) (by omega) (by omega), fun l hl => ?_⟩
  have rr : Reps X.K (view S A1 H1) (rngD 0 n.toNat) (rgV 0 n) := by have := reps_rg (K := X.K) (h := view S A1 H1) 0 n; rwa [Int.sub_zero] at this
  have sm := same_upd (o := .lst (rgV 0 n)) hl
  refine k _ _ (.d (.lst (rngD 0 n.toNat))) M1 A1 (p1.trans (s1.post sm)) (s1.grow sm) ⟨l, _, rfl, .inl (.inl (view_at s1 hl)), Reps.mono (off_same sm) _ _ rr⟩ hq
end
end Dw
set_option Elab.async false
set_option linter.all false
set_option maxRecDepth 100000
set_option maxHeartbeats 4000000
/-! more rules -/
namespace Dw
open PySem PySem.Spec PyProof.Rows L2
theorem items_tI {ds : List D} : (D.tup ds).items = some ds := rfl
theorem items_lI {ds : List D} : (D.lst ds).items = some ds := rfl
theorem isi_ref {C : Prop} (h : C) : C := h
theorem ru0 : type_of% @sRaise.eq_1 := @sRaise.eq_1
theorem ru1 : type_of% @iEn.eq_1 := @iEn.eq_1
theorem ru2 : type_of% @wDc.eq_1 := @wDc.eq_1
theorem ru3 : type_of% @wBestDf.eq_1 := @wBestDf.eq_1
theorem ru4 : type_of% @wRem.eq_1 := @wRem.eq_1
theorem ru5 : type_of% @wRepL.eq_1 := @wRepL.eq_1
theorem ru6 : type_of% @wListRg.eq_1 := @wListRg.eq_1
theorem ru7 : type_of% @wListRgO.eq_1 := @wListRgO.eq_1
theorem ru8 : type_of% @sWhen.eq_1 := @sWhen.eq_1
theorem ru9 : type_of% @wXf.eq_1 := @wXf.eq_1
theorem ru14 : type_of% @List.zip_cons_cons := @List.zip_cons_cons
theorem ru15 : type_of% @List.zip_nil_left := @List.zip_nil_left
theorem ru16 : type_of% @List.reverse_cons := @List.reverse_cons
theorem ru17 : type_of% @List.reverse_nil := @List.reverse_nil
theorem ru18 : type_of% @items_tI := @items_tI
theorem ru19 : type_of% @items_lI := @items_lI
theorem ru20 : type_of% @sTry.eq_1 := @sTry.eq_1
theorem ru21 : type_of% @clE.eq_1 := @clE.eq_1
theorem ru22 : type_of% @clE.eq_2 := @clE.eq_2
theorem ru23 : type_of% @clEnv.eq_1 := @clEnv.eq_1
theorem ru24 : type_of% @clEnv.eq_2 := @clEnv.eq_2
theorem ru25 : type_of% @List.length_map := @List.length_map
theorem ru26 : type_of% @Int.zero_add := @Int.zero_add
theorem lc_id {wg : WG} {we : WE} {env : Env'} {Q : List D → Mem → Prop} (f : D → D) (xs : List D) {M : Mem}
    (hs : ∀ x ∈ xs, ∀ G : D → Mem → Prop, G (f x) M → wg (.d x) env M fun env1 M1 => we env1 M1 fun y M3 => ∃ z, y = .d z ∧ G z M3)
    (hd : Q (xs.map f) M) : wLcL wg wYes we env xs M [] Q := by
  have := lc_map' (wg := wg) (we := we) (env := env) (Q := Q) (M := M) (fun d : D => d) f xs hs hd
  rwa [List.map_id'] at this
end Dw
set_option Elab.async false
set_option linter.all false
set_option maxRecDepth 100000
set_option maxHeartbeats 4000000
/-! DwJ: rows of pairs of whole numbers: the least, the place of one. -/
namespace Dw
open PySem PySem.Spec PyProof.Rows L2
abbrev Pr := Int × Int
def prD (p : Pr) : D := .tup [.int p.1, .int p.2]
def prP (p : Pr) : PyData := .tuple [.int p.1, .int p.2]
def pLt (a b : Pr) : Bool := decide (a.1 < b.1) || (decide (a.1 = b.1) && decide (a.2 < b.2))
theorem prD_py (p : Pr) : (prD p).py = some (prP p) := rfl
theorem pys_pairs : ∀ ps : List Pr, D.pys (ps.map prD) = some (ps.map prP)
  | [] => rfl
  | p :: ps => by
    rw [List.map_cons, List.map_cons, D.pys, pys_pairs ps]; rfl
theorem lay_pairs : ∀ ps : List Pr, PyData.canLayAll0 (ps.map prP) = true
  | [] => by simp [PyData.canLayAll0]
  | p :: ps => by
    rw [List.map_cons, PyData.canLayAll0, lay_pairs ps]
    simp [prP, PyData.canLay0, PyData.canLayAll0]
theorem depth_pairs : ∀ ps : List Pr, PyData.depthAll (ps.map prP) ≤ 64
  | [] => by simp [PyData.depthAll]
  | p :: ps => by
    have := depth_pairs ps
    rw [List.map_cons, PyData.depthAll]
    have h1 : (prP p).depth ≤ 64 := by simp [prP, PyData.depth, PyData.depthAll]
    omega
theorem dat_pairs (ps : List Pr) : DatOk (ps.map prP) := ⟨⟨fun x hx y hy => by
  obtain ⟨p, _, rfl⟩ := List.mem_map.mp hx
  obtain ⟨q, _, rfl⟩ := List.mem_map.mp hy
  simp [prP, PySem.W.alike, PySem.W.alikeAll], fun x hx => by
  obtain ⟨p, _, rfl⟩ := List.mem_map.mp hx
  intro e; cases e⟩, lay_pairs ps, depth_pairs ps⟩
theorem lt_pair (a b : Pr) : PySem.W.dataLt (prP a) (prP b) = pLt a b := by
  rcases a with ⟨a1, a2⟩
  rcases b with ⟨b1, b2⟩
  unfold PySem.W.dataLt prP pLt
  simp [PySem.W.keyToks, PySem.W.keyToksAll, PyProof.Rows.lexLt, itemLt]
  by_cases h1 : a1 < b1
  · simp [h1]
  · by_cases h2 : a1 = b1
    · subst h2; simp
    · have : b1 < a1 := by omega
      simp [h1, h2, this]
theorem min_pairs : ∀ (ps : List Pr) (p : Pr), PySem.W.minD (prP p) (ps.map prP) = prP (ps.foldl (fun a y => if pLt y a = true then y else a) p)
  | [], _ => rfl
  | q :: ps, p => by
    have ih := min_pairs ps (if pLt q p = true then q else p)
    unfold PySem.W.minD at ih ⊢
    rw [List.map_cons, List.foldl_cons, List.foldl_cons, ← ih, lt_pair]
    by_cases h : pLt q p = true
    · rw [if_pos h, if_pos h]
    · rw [if_neg h, if_neg h]
/-- the least pair -/
def leastP : List Pr → Pr
  | [] => (0, 0)
  | p :: ps => ps.foldl (fun a y => if pLt y a = true then y else a) p
theorem best_pairs {x : D} {ps : List Pr} (hi : x.items = some (ps.map prD)) (hn : ps ≠ []) : fBest PySem.W.minD [x] (prD (leastP ps)) := by
  cases ps with
  | nil => exact absurd rfl hn
  | cons p ps => exact ⟨x, _, prP p, ps.map prP, rfl, hi, pys_pairs (p :: ps), dat_pairs (p :: ps), by rw [min_pairs]; exact prD_py _⟩
theorem findIdx_idxOf {α : Type} [DecidableEq α] [BEq α] [LawfulBEq α] {p : α} : ∀ {ps : List α}, p ∈ ps → ps.findIdx? (fun q => decide (q = p)) = some (ps.idxOf p)
  | [], h => by cases h
  | q :: ps, h => by
    rw [List.findIdx?_cons, List.idxOf_cons]
    by_cases e : q = p
    · subst e; simp
    · have h' : p ∈ ps := by
        rcases List.mem_cons.mp h with h | h
        · exact absurd h.symm e
        · exact h
      have e2 : (q == p) = false := by simpa using e
      rw [decide_eq_false e, e2, findIdx_idxOf h']
      simp
theorem eqv_pair (p q : Pr) : PyData.eqv (prP p) (prP q) = decide (p = q) := by
  rcases p with ⟨a, b⟩
  rcases q with ⟨c, d⟩
  simp [prP, PyData.eqv, PyData.eqvAll]
  by_cases h1 : a = c <;> by_cases h2 : b = d <;> simp [h1, h2]
theorem plain_pairs : ∀ ps : List Pr, PyData.plainAll (ps.map prP) = true
  | [] => by simp [PyData.plainAll]
  | p :: ps => by
    rw [List.map_cons, PyData.plainAll, plain_pairs ps]
    simp [prP, PyData.plain, PyData.plainAll]
theorem plain_pair (p : Pr) : (prP p).plain = true := by simp [prP, PyData.plain, PyData.plainAll]
theorem place_pairs {ps : List Pr} {p : Pr} (h : p ∈ ps) : PySem.SeqAt.dataPlace (ps.map prP) (prP p) = some (ps.idxOf p) := by
  unfold PySem.SeqAt.dataPlace
  rw [List.findIdx?_map, show ((fun y => PyData.eqv y (prP p)) ∘ prP) = fun q => decide (q = p) from funext fun q => eqv_pair q p]
  exact findIdx_idxOf h
theorem eraseIdx_map' {α β : Type} (f : α → β) : ∀ (l : List α) (j : Nat), (l.map f).eraseIdx j = (l.eraseIdx j).map f
  | [], j => by simp
  | a :: r, 0 => rfl
  | a :: r, j + 1 => by
    have := eraseIdx_map' f r j
    simp [this]
theorem erase_pairs {ps : List Pr} {p : Pr} (h : p ∈ ps) : (ps.map prD).eraseIdx (ps.idxOf p) = (ps.erase p).map prD := by
  rw [eraseIdx_map', ← List.erase_eq_eraseIdx_of_idxOf rfl]
/-! ### whole numbers -/
theorem pys_ints' (ns : List Int) : D.pys (ns.map .int) = some (ns.map .int) := py_ints ns
theorem plain_ints : ∀ ns : List Int, PyData.plainAll (ns.map .int) = true
  | [] => by simp [PyData.plainAll]
  | n :: ns => by rw [List.map_cons, PyData.plainAll, plain_ints ns]; rfl
theorem dat_ints (ns : List Int) : DatOk (ns.map .int) := ⟨⟨fun x hx y hy => by
  obtain ⟨p, _, rfl⟩ := List.mem_map.mp hx
  obtain ⟨q, _, rfl⟩ := List.mem_map.mp hy
  rfl, fun x hx => by
  obtain ⟨p, _, rfl⟩ := List.mem_map.mp hx
  intro e; cases e⟩, can_ints ns, by have := dep_ints ns; omega⟩
theorem place_ints {ns : List Int} {n : Int} (h : n ∈ ns) : PySem.SeqAt.dataPlace (ns.map .int) (.int n) = some (ns.idxOf n) := by
  unfold PySem.SeqAt.dataPlace
  rw [List.findIdx?_map]
  have ev : ∀ a b : Int, PyData.eqv (.int a) (.int b) = decide (a = b) := fun a b => by
    show (a == b) = _
    by_cases e : a = b
    · subst e; simp
    · rw [decide_eq_false e]; exact beq_eq_false_iff_ne.mpr e
  rw [show ((fun y => PyData.eqv y (.int n)) ∘ PyData.int) = fun q => decide (q = n) from funext fun q => ev q n]
  exact findIdx_idxOf h
theorem erase_ints {ns : List Int} {n : Int} (h : n ∈ ns) : (ns.map D.int).eraseIdx (ns.idxOf n) = (ns.erase n).map .int := by
  rw [eraseIdx_map', ← List.erase_eq_eraseIdx_of_idxOf rfl]
end Dw
set_option Elab.async false
set_option linter.all false
set_option maxRecDepth 100000
set_option maxHeartbeats 4000000
/-! DwK: comprehensions over a list that may change (it stays as it is while they run). -/
namespace Dw
open PySem PySem.Spec PyProof.Rows L2
/-- J walks the items ds, in any later heap, as long as chk holds of the memory -/
def WlkC (K : PySem.W.Frag) (S A : List Addr) (H : Hp) (J : It) (ds : List D) (chk : Mem → Prop) : Prop :=
  ∀ (S' A' : List Addr) (H' : Hp) (M' : Mem), Same (view S A H) (view S' A' H') → A <+: A' → Sto K S' A' H' M' → chk M' →
    (∀ (i : Nat) (d : D), ds[i]? = some d → J.go i H' ∧ ∀ x H2, J.yld i H' x H2 → Same H' H2 ∧ Rep K (view S' A' H2) d x) ∧ ∀ i, ds.length ≤ i → J.stop i H'
abbrev WIC := Env' → Mem → (List D → (Mem → Prop) → Mem → Prop) → Prop
def DnIC (J : Bs) (K : PySem.W.Frag) (ti : TI) (wi : WIC) : Prop := ∀ env M Q, wi env M Q → ∀ (S A : List Addr) (σ : L2.St) (H : Hp) (R : It → Hp → Prop), Sto K S A H M → EnvOk J K S A H env σ →
  (∀ (J : It) (H' : Hp) (ds : List D) (chk : Mem → Prop) (M' : Mem) (A' : List Addr), Post S A H A' H' → Sto K S A' H' M' → WlkC K S A' H' J ds chk → Q ds chk M' → R J H') → ti σ H R
def QIC (J : Bs) (X : Cx) (tg iter : Expr) (wi : WIC) : Prop := ∃ ti, PI X tg iter ti ∧ DnIC J X.K ti wi
def gChk (chk : Mem → Prop) (wg : WG) : WG := fun r env M Q => chk M ∧ wg r env M Q
def wLcC (wi : WIC) (wg : WG) (wt : WT) (we : WE) (vs : List Nat) : WE := fun env M Q => wi env M fun ds chk M1 => ds.length ≤ sizeLine ∧ wLcL (gChk chk wg) wt we (wipeE env vs) ds M1 [] fun acc M2 => chk M2 ∧ Q (.d (.lst acc)) M2
section
variable {X : Cx} {K : PySem.W.Frag} {J : Bs}
theorem dn_lcC {ti : TI} {g : TG} {tt : TT} {te : TE} {wi : WIC} {wg : WG} {wt : WT} {we : WE} {vs ss : List Nat} (hi : DnIC J K ti wi) (hg : DnG J K ss g wg) (ht : DnT J K tt wt) (he : Dn J K te we) (hs : ∀ i ∈ ss, i ∈ vs) : Dn J K (tLc ti g tt te vs) (wLcC wi wg wt we vs) := by
  intro env M Q hw S A σ H R st en k
  refine hi env M _ hw S A σ H _ st en fun J H1 ds chk M1 A1 p1 s1 wk ⟨hz, hw1⟩ => ?_
  intro D0 hD
  have fr := s1.fresh hD
  have nS : D0 ∉ S := fun z => fr (List.mem_append_left _ z)
  have nA : D0 ∉ A1 := fun z => fr (List.mem_append_right _ z)
  have sub : ∀ (A : List Addr) (H : Hp), Same (view (D0 :: S) A H) (view S A H) := fun A H => off_less fun a ha => List.mem_cons_of_mem _ ha
  have v0 : Same (view S A1 H1) (view (D0 :: S) A1 (upd H1 D0 (.lst []))) := fun b x e => by
    obtain ⟨n, q⟩ := off_some e
    have hb : b ≠ D0 := ne_of_none q hD
    refine off_of (fun z => ?_) (by rw [upd_ne hb]; exact q)
    rcases List.mem_cons.mp z with z | z
    · exact hb z
    · exact n z
  have st0 : Sto K (D0 :: S) A1 (upd H1 D0 (.lst [])) M1 := by
    refine ⟨s1.len, s1.nd, fun a ha z => ?_, fun a ha => ?_, fun i mo a h1 h2 => ?_⟩
    · rcases List.mem_cons.mp z with z | z
      · exact nA (z ▸ ha)
      · exact s1.dj a ha z
    · rcases List.mem_cons.mp ha with rfl | ha
      · exact ⟨_, upd_same⟩
      · obtain ⟨o, e⟩ := s1.trk a ha
        exact ⟨o, by rw [upd_ne (ne_of_none e hD)]; exact e⟩
    · refine (s1.mem i mo a h1 h2).to (upd_ne (fun (z : a = D0) => nA (by rw [← z]; exact List.mem_of_getElem? h2))) v0
  refine ⟨fun i m H2 => m = ds.length - i ∧ i ≤ ds.length ∧ ∃ M2 A2 acc xs, A1 <+: A2 ∧ Same (view S A1 H1) (view (D0 :: S) A2 H2) ∧ (∀ a ∈ S, H2 a = H1 a) ∧ Sto K (D0 :: S) A2 H2 M2 ∧ H2 D0 = some (.lst xs) ∧ Reps K (view (D0 :: S) A2 H2) acc xs ∧ acc.length ≤ i ∧
      wLcL (gChk chk wg) wt we (wipeE env vs) (ds.drop i) M2 acc (fun acc M2 => chk M2 ∧ Q (.d (.lst acc)) M2), ⟨ds.length, by simp, Nat.zero_le _, M1, A1, [], [], List.prefix_refl _, v0, fun a ha => upd_ne (fun (z : a = D0) => nS (by rw [← z]; exact ha)), st0, upd_same, rfl, by simp, by simpa using hw1⟩, ?_⟩
  rintro i m H2 ⟨rfl, hil, M2, A2, acc, xs, pre, vw, hid, st2, hD2, rp, hal, hw2⟩
  by_cases hlt : i < ds.length
  · have hd : ds[i]? = some ds[i] := List.getElem?_eq_getElem hlt
    rw [List.drop_eq_getElem_cons hlt] at hw2
    obtain ⟨N, hN, hck, hw2⟩ := hw2
    obtain ⟨wk1, wk2⟩ := wk (D0 :: S) A2 H2 M2 vw pre st2 hck
    obtain ⟨go, yl⟩ := wk1 i _ hd
    refine .inr ⟨go, fun H' => i + 1 ≤ ds.length ∧ ∃ M2 A2 acc xs, A1 <+: A2 ∧ Same (view S A1 H1) (view (D0 :: S) A2 H') ∧ (∀ a ∈ S, H' a = H1 a) ∧ Sto K (D0 :: S) A2 H' M2 ∧ H' D0 = some (.lst xs) ∧ Reps K (view (D0 :: S) A2 H') acc xs ∧ acc.length ≤ i + 1 ∧
      wLcL (gChk chk wg) wt we (wipeE env vs) (ds.drop (i + 1)) M2 acc (fun acc M2 => chk M2 ∧ Q (.d (.lst acc)) M2), fun H' q => ⟨ds.length - (i + 1), by omega, rfl, q⟩, fun x H3 yd => ?_⟩
    obtain ⟨sm, rx⟩ := yl x H3 yd
    have st3 := st2.grow sm
    have p3 := st2.post sm
    have en3 : EnvOk _ K (D0 :: S) A2 H3 (wipeE env vs) (wipe σ vs) := ((en.mono p1).wipe vs).to pre (vw.trans p3.view) (fun a ha => List.mem_cons_of_mem _ ha) (fun a ha => (p3.hid a (List.mem_cons_of_mem _ ha)).trans (hid a ha))
    refine hg _ _ _ _ hw2 (D0 :: S) A2 (wipe σ vs) H3 x _ st3 en3 rx fun σ4 H4 env4 M4 A4 p4 s4 e4 wp hw4 => ?_
    have wp' : wipe σ4 vs = wipe σ vs := by
      rw [wp vs hs]
      have : ∀ ws us : List Nat, (∀ i ∈ us, i ∈ ws) → wipe (wipe σ us) ws = wipe σ ws := by
        intro ws us
        induction us with
        | nil => intro _; rfl
        | cons u us ih =>
          intro hu
          show wipe ((wipe σ us).set u none) ws = _
          rw [wipe_set (hu u List.mem_cons_self)]
          exact ih fun i hi => hu i (List.mem_cons_of_mem _ hi)
      exact this vs vs fun i hi => hi
    refine ⟨wp', ?_⟩
    refine ht _ _ _ hw4 (D0 :: S) A4 σ4 H4 _ s4 e4 fun b H5 M5 A5 p5 s5 hw5 => ?_
    have pp := (p3.trans p4).trans p5
    have hid5 : ∀ a ∈ S, H5 a = H1 a := fun a ha => (pp.hid a (List.mem_cons_of_mem _ ha)).trans (hid a ha)
    have hD5 : H5 D0 = some (.lst xs) := (pp.hid D0 List.mem_cons_self).trans hD2
    cases b with
    | false =>
      exact ⟨hlt, M5, A5, acc, xs, pre.trans pp.pre, vw.trans pp.view, hid5, s5, hD5, Reps.mono pp.view _ _ rp, by omega, hN _ _ hw5⟩
    | true =>
      refine he _ _ _ hw5 (D0 :: S) A5 σ4 H5 _ s5 (e4.mono p5) fun y H6 ry M6 A6 p6 s6 q6 ⟨z, ez, hw6⟩ => ?_
      subst ez
      have pp6 := pp.trans p6
      have hD6 : H6 D0 = some (.lst xs) := (p6.hid D0 List.mem_cons_self).trans hD5
      have rp6 : Reps K (view (D0 :: S) A6 H6) acc xs := Reps.mono pp6.view _ _ rp
      refine ⟨xs, hD6, by rw [rp6.len]; omega, hlt, ?_⟩
      have vset : view (D0 :: S) A6 (upd H6 D0 (.lst (xs ++ [y]))) = view (D0 :: S) A6 H6 := by
        funext b
        unfold view off
        by_cases e : b ∈ D0 :: S ++ A6
        · rw [if_pos e, if_pos e]
        · rw [if_neg e, if_neg e, upd_ne (fun z => e (by rw [z]; exact List.mem_cons_self))]
      have nA6 : D0 ∉ A6 := fun z => s6.dj D0 z List.mem_cons_self
      refine ⟨M6, A6, acc ++ [z], xs ++ [y], pre.trans pp6.pre, by rw [vset]; exact vw.trans pp6.view, fun a ha => ?_, ?_, upd_same, ?_, by rw [List.length_append]; simp; omega, hN _ _ hw6⟩
      · rw [upd_ne (fun (z : a = D0) => nS (by rw [← z]; exact ha))]
        exact (p6.hid a (List.mem_cons_of_mem _ ha)).trans (hid5 a ha)
      · refine ⟨s6.len, s6.nd, s6.dj, fun a ha => ?_, fun j mo a h1 h2 => ?_⟩
        · by_cases e : a = D0
          · subst e; exact ⟨_, upd_same⟩
          · rw [upd_ne e]; exact s6.trk a ha
        · exact (s6.mem j mo a h1 h2).to (upd_ne (fun (z : a = D0) => nA6 (by rw [← z]; exact List.mem_of_getElem? h2))) (by rw [vset]; exact Same.refl _)
      · rw [vset]
        exact Reps.app rp6 (Reps.one q6)
  · have e : i = ds.length := by omega
    subst e
    rw [List.drop_length] at hw2
    obtain ⟨hck, hw2⟩ := hw2
    obtain ⟨wk1, wk2⟩ := wk (D0 :: S) A2 H2 M2 vw pre st2 hck
    refine .inl ⟨wk2 _ (Nat.le_refl _), ?_⟩
    have nA2 : D0 ∉ A2 := fun z => st2.dj D0 z List.mem_cons_self
    have sb := sub A2 H2
    refine k (.ref D0) H2 (.d (.lst acc)) M2 A2 (p1.trans ⟨pre, vw.trans sb, hid⟩) ⟨st2.len, st2.nd, fun a ha z => st2.dj a ha (List.mem_cons_of_mem _ z), fun a ha => st2.trk a (List.mem_cons_of_mem _ ha), fun j mo a h1 h2 => (st2.mem j mo a h1 h2).to rfl sb⟩ ?_ hw2
    exact ⟨D0, xs, rfl, .inl (.inl (off_of (fun z => (List.mem_append.mp z).elim nS nA2) hD2)), Reps.mono sb _ _ rp⟩
end
section
variable {X : Cx} {K : PySem.W.Frag} {J : Bs} {n0 : Nat} {tg iter elt e : Expr} {ifs : List Expr} {wi : WIC} {wg : WG} {wt : WT} {we : WE} {ss : List Nat} {scope : Scope} {own : List (Str × Nat)} {pos : Pos}
theorem qe_lcC (hc : X.calm = true) (hN : X.N.Nodup) (hi : QIC J X tg iter wi) (ok : BlkOk X.N X.env.scope scope own) (hss : ∀ i ∈ ss, i ∈ own.map (·.2))
    (hg : ∀ (s : Shared) (H : Hp) (C : Addr) (cl : List (Str × Addr)) (fp : List Addr), QG J (X.blk s H scope (compEnvC scope cl C X.env) fp) ss tg wg)
    (ht : ∀ (s : Shared) (H : Hp) (C : Addr) (cl : List (Str × Addr)) (fp : List Addr), QTs J (X.blk s H scope (compEnvC scope cl C X.env) fp) ifs wt)
    (he : ∀ (s : Shared) (H : Hp) (C : Addr) (cl : List (Str × Addr)) (fp : List Addr), QE J (X.blk s H scope (compEnvC scope cl C X.env) fp) elt we) (hs : ∀ x, foldedSetIterable iter X.env x = pure x := by intro _; rfl) :
    QE J X (.ListComp elt [⟨tg, iter, ifs, 0⟩] scope pos) (wLcC wi wg wt we (own.map (·.2))) := by
  obtain ⟨ti, pi, di⟩ := hi
  exact ⟨_, pe_lc hc hN pi ok (g := canG J X.K ss wg) (tt := canT J X.K wt) (te := canE J X.K we) (fun s H C cl fp => (hg s H C cl fp).pg) (fun s H C cl fp => (ht s H C cl fp).pts) (fun s H C cl fp => (he s H C cl fp).pe) hs, dn_lcC di dng_can dnt_can dn_can hss⟩
theorem qs_setLcC {i : Nat} {y : Str} {py spos : Pos} (hc : X.calm = true) (hN : X.N.Nodup) (hy : X.N[i]? = some y) (hyl : X.env.scope.names.lookup y = some .local)
    (hsw : swapsWith (.ListComp elt [⟨tg, iter, ifs, 0⟩] scope pos) (some (.Name y py)) spos.line X.env = pure true) (hi : QIC J X tg iter wi) (ok : BlkOk X.N X.env.scope scope own) (hss : ∀ i ∈ ss, i ∈ own.map (·.2))
    (hg : ∀ (s : Shared) (H : Hp) (C : Addr) (cl : List (Str × Addr)) (fp : List Addr), QG J (X.blk s H scope (compEnvC scope cl C X.env) fp) ss tg wg)
    (ht : ∀ (s : Shared) (H : Hp) (C : Addr) (cl : List (Str × Addr)) (fp : List Addr), QTs J (X.blk s H scope (compEnvC scope cl C X.env) fp) ifs wt)
    (he : ∀ (s : Shared) (H : Hp) (C : Addr) (cl : List (Str × Addr)) (fp : List Addr), QE J (X.blk s H scope (compEnvC scope cl C X.env) fp) elt we) (hs : ∀ x, foldedSetIterable iter X.env x = pure x := by intro _; rfl) :
    QS J X n0 (.Assign [.Name y py] (.ListComp elt [⟨tg, iter, ifs, 0⟩] scope pos) spos) (sSet i (wLcC wi wg wt we (own.map (·.2)))) := by
  obtain ⟨ti, pi, di⟩ := hi
  exact ⟨_, ps_setLc hc hN hy hyl hsw pi ok (g := canG J X.K ss wg) (tt := canT J X.K wt) (te := canE J X.K we) (fun s H C cl fp => (hg s H C cl fp).pg) (fun s H C cl fp => (ht s H C cl fp).pts) (fun s H C cl fp => (he s H C cl fp).pe) hs, dns_set (dn_lcC di dng_can dnt_can dn_can hss)⟩

/-- over the k-th object -/
def iOb (we : WE) : WIC := fun env M Q => we env M fun r M1 => ∃ k, r = .o k ∧ ∃ mo, M1[k]? = some mo ∧ ∃ ds, mo.ls = some ds ∧ Q ds (fun M2 => M2[k]? = some mo) M1
theorem MOk.ls {S A : List Addr} {H : Hp} {a : Addr} {mo : MO} {ds : List D} (h : MOk K S A H a mo) (e : mo.ls = some ds) : ∃ vs, H a = some (.lst vs) ∧ Reps K (view S A H) ds vs := by
  cases mo with
  | lst xs => cases e; exact h
  | la b xs => cases e; exact h.1
  | _ => cases e
theorem qi_obj (h : QE J X e we) : QIC J X tg e (iOb we) := by
  obtain ⟨te, pe, de⟩ := h
  refine ⟨_, pi_list pe, fun env M Q hw S A σ H R st en k => ?_⟩
  refine de env M _ hw S A σ H _ st en fun v H1 r M1 A1 p1 s1 q1 ⟨kk, e, mo, hm, ds, hl, hq⟩ => ?_
  subst e
  obtain ⟨a, ha, rfl⟩ := q1
  obtain ⟨vs, h1, h2⟩ := MOk.ls (s1.mem kk mo a hm ha) hl
  refine ⟨a, rfl, ⟨vs, .inl (.inl h1)⟩, k _ H1 ds (fun M2 => M2[kk]? = some mo) M1 A1 p1 s1 (fun S' A' H' M' sm pr st' ck => ?_) hq⟩
  have ha' : A'[kk]? = some a := by
    obtain ⟨t, rfl⟩ := pr
    rw [List.getElem?_append_left (List.getElem?_eq_some_iff.mp ha).1]; exact ha
  obtain ⟨us, g1, g2⟩ := MOk.ls (st'.mem kk mo a ck ha') hl
  refine ⟨fun i d e => ?_, fun i hi => ⟨us, .inl (.inl g1), by rw [g2.len]; exact hi⟩⟩
  obtain ⟨v, e1, e2⟩ := g2.get e
  refine ⟨⟨us, v, .inl (.inl g1), e1⟩, fun x H2 y => ?_⟩
  obtain ⟨rfl, y⟩ := y
  have := y us (.inl (.inl g1))
  rw [e1] at this
  cases this
  exact ⟨Same.refl _, e2⟩
end
theorem rk1 : type_of% @wLcC.eq_1 := @wLcC.eq_1
theorem rk2 : type_of% @iOb.eq_1 := @iOb.eq_1
theorem rk3 : type_of% @gChk.eq_1 := @gChk.eq_1
/-! ### names = values, more than one: the tuple is made and taken apart (names that an inner block sees) -/
def gNames : List Nat → TGs
  | [] => gNil
  | i :: is => gCons (gName i) (gNames is)
def QNs (X : Cx) (tgs : List Expr) (is : List Nat) : Prop := PGs X tgs (gNames is)
def setsE (env : Env') : List Nat → List Rv → Env'
  | i :: is, r :: rs => setsE (env.set i (some r)) is rs
  | _, _ => env
def sParN (is : List Nat) (ws : WA) : WS := fun E env M => ws env M fun rs M1 => rs.length = is.length ∧ rs.length ≤ sizeLine ∧ E.nx (setsE env is rs) M1
section
variable {X : Cx} {J : Bs} {n0 : Nat} {K : PySem.W.Frag} {wai : WA} {pos : Pos}
theorem qn_nil : QNs X [] [] := pgs_nil
theorem qn_cons {x : Str} {p : Pos} {es : List Expr} {i : Nat} {is : List Nat} (hN : X.N.Nodup) (hi : X.N[i]? = some x) (hx : Loc X.env.scope x) (h : QNs X es is)
    (hs : (assignEach (.Name x p :: es) X.env).map (·.2) = assign (.Name x p) X.env :: (assignEach es X.env).map (·.2) := by rfl)
    (hf : X.fn x = true ∨ X.env.scope.names.lookup x = some .local := by first | exact .inl rfl | exact .inr rfl | assumption) : QNs X (.Name x p :: es) (i :: is) :=
  pgs_cons (pg_name hN hi hx hf) h hs
theorem run_names {S A : List Addr} {H : Hp} {Q : L2.St → Hp → Prop} {F : Env' → Prop} : ∀ (is : List Nat) (rs : List Rv) (vs : List V) (σ : L2.St) (env : Env'), RepVs K S A H rs vs → EnvOk J K S A H env σ → rs.length = is.length →
    (∀ σ', EnvOk J K S A H (setsE env is rs) σ' → Q σ' H) → gNames is vs σ H Q
  | [], [], vs, σ, env, r, en, _, k => by cases r; exact ⟨rfl, k σ en⟩
  | i :: is, r :: rs, _, σ, env, ⟨v, us, e, r1, r2⟩, en, hl, k => by
    subst e
    exact ⟨v, us, rfl, run_names (F := F) is rs us _ _ r2 (en.set r1) (by simpa using hl) k⟩
theorem qs_parN {tgs es : List Expr} {is : List Nat} {kt k2 : Nat} {pt pt2 : Pos} (hc : X.calm = true) (h : QA J X es wai) (g : QNs X tgs is)
    (hn : (assignEach tgs X.env).length = is.length := by rfl) (hst : (assignEach tgs X.env).findIdx? (·.1) = none := by rfl)
    (hs : swapsWithSole [.Tuple tgs kt pt] (.Tuple es k2 pt2) pos.line X.env = pure false := by rfl) (hw : swappedStores [.Tuple tgs kt pt] (.Tuple es k2 pt2) X.env = pure none := by rfl)
    (h1 : (assignEach [.Tuple tgs kt pt] X.env).map (·.2) = [assign (.Tuple tgs kt pt) X.env] := by rfl) : QS J X n0 (.Assign [.Tuple tgs kt pt] (.Tuple es k2 pt2) pos) (sParN is wai) := by
  obtain ⟨ta, pa, da⟩ := h
  refine ⟨_, ps_asg (pe_tup pa) (pg_tup hc g hn hst) hs hw h1, fun E env M hw S P A σ H D hn hp st en eo => ?_⟩
  refine da env M _ hw S A σ H _ st en fun vs H1 rs M1 A1 p1 s1 q1 ⟨hl, hz, hq⟩ => ⟨by rw [q1.len]; exact hz, fun p hp' => ?_⟩
  have sm : Same H1 (upd H1 p (.tup vs)) := fun b o e => by rw [upd_ne (ne_of_none e hp')]; exact e
  have s2 := s1.grow sm
  have p2 := s1.post sm
  refine ⟨p, vs, rfl, .inl (.inl upd_same), by rw [q1.len]; exact hl, ?_⟩
  refine run_names (F := fun _ => True) is rs vs σ env (q1.mono p2) ((en.mono p1).mono p2) hl fun σ' e' => ?_
  exact eo.nx σ' _ _ M1 A1 ((p1.trans p2).s hp) s2 e' hq
end
theorem rk4 : type_of% @sParN.eq_1 := @sParN.eq_1
theorem rk5 : type_of% @setsE.eq_1 := @setsE.eq_1
theorem rk6 {env : Env'} {is : List Nat} : setsE env is [] = env := by cases is <;> rfl
end Dw
set_option Elab.async false
set_option linter.all false
set_option maxRecDepth 100000
set_option maxHeartbeats 4000000
/-! DwM: xs.extend(a row just made), d.get(k, x). -/
namespace Dw
open PySem PySem.Spec PyProof.Rows L2
/-- a list that has just been made -/
def DnL (J : Bs) (K : PySem.W.Frag) (te : TE) (we : WE) : Prop := ∀ env M Q, we env M Q → ∀ (S A : List Addr) (σ : L2.St) (H : Hp) (R : VK), Sto K S A H M → EnvOk J K S A H env σ →
  (∀ (v : V) (H' : Hp) (ds : List D) (M' : Mem) (A' : List Addr), Post S A H A' H' → Sto K S A' H' M' → (∃ a vs, v = .ref a ∧ view S A' H' a = some (.lst vs) ∧ Reps K (view S A' H') ds vs) → Q (.d (.lst ds)) M' → R v H') → te σ H R
def QEL (J : Bs) (X : Cx) (e : Expr) (we : WE) : Prop := ∃ te, PE X e te ∧ DnL J X.K te we
section
variable {X : Cx} {K : PySem.W.Frag} {J : Bs}
theorem dnl_lc {ti : TI} {g : TG} {tt : TT} {te : TE} {wi : WI} {wg : WG} {wt : WT} {we : WE} {vs ss : List Nat} (hi : DnI J K ti wi) (hg : DnG J K ss g wg) (ht : DnT J K tt wt) (he : Dn J K te we) (hs : ∀ i ∈ ss, i ∈ vs) : DnL J K (tLc ti g tt te vs) (wLc wi wg wt we vs) := by
  intro env M Q hw S A σ H R st en k
  refine hi env M _ hw S A σ H _ st en fun J H1 ds M1 A1 p1 s1 wk ⟨hz, hw1⟩ => ?_
  intro D0 hD
  have fr := s1.fresh hD
  have nS : D0 ∉ S := fun z => fr (List.mem_append_left _ z)
  have nA : D0 ∉ A1 := fun z => fr (List.mem_append_right _ z)
  have sub : ∀ (A : List Addr) (H : Hp), Same (view (D0 :: S) A H) (view S A H) := fun A H => off_less fun a ha => List.mem_cons_of_mem _ ha
  have v0 : Same (view S A1 H1) (view (D0 :: S) A1 (upd H1 D0 (.lst []))) := fun b x e => by
    obtain ⟨n, q⟩ := off_some e
    have hb : b ≠ D0 := ne_of_none q hD
    refine off_of (fun z => ?_) (by rw [upd_ne hb]; exact q)
    rcases List.mem_cons.mp z with z | z
    · exact hb z
    · exact n z
  have st0 : Sto K (D0 :: S) A1 (upd H1 D0 (.lst [])) M1 := by
    refine ⟨s1.len, s1.nd, fun a ha z => ?_, fun a ha => ?_, fun i mo a h1 h2 => ?_⟩
    · rcases List.mem_cons.mp z with z | z
      · exact nA (z ▸ ha)
      · exact s1.dj a ha z
    · rcases List.mem_cons.mp ha with rfl | ha
      · exact ⟨_, upd_same⟩
      · obtain ⟨o, e⟩ := s1.trk a ha
        exact ⟨o, by rw [upd_ne (ne_of_none e hD)]; exact e⟩
    · refine (s1.mem i mo a h1 h2).to (upd_ne (fun (z : a = D0) => nA (by rw [← z]; exact List.mem_of_getElem? h2))) v0
  refine ⟨fun i m H2 => m = ds.length - i ∧ i ≤ ds.length ∧ ∃ M2 A2 acc xs, A1 <+: A2 ∧ Same (view S A1 H1) (view (D0 :: S) A2 H2) ∧ (∀ a ∈ S, H2 a = H1 a) ∧ Sto K (D0 :: S) A2 H2 M2 ∧ H2 D0 = some (.lst xs) ∧ Reps K (view (D0 :: S) A2 H2) acc xs ∧ acc.length ≤ i ∧
      wLcL wg wt we (wipeE env vs) (ds.drop i) M2 acc (fun acc M2 => Q (.d (.lst acc)) M2), ⟨ds.length, by simp, Nat.zero_le _, M1, A1, [], [], List.prefix_refl _, v0, fun a ha => upd_ne (fun (z : a = D0) => nS (by rw [← z]; exact ha)), st0, upd_same, rfl, by simp, by simpa using hw1⟩, ?_⟩
  rintro i m H2 ⟨rfl, hil, M2, A2, acc, xs, pre, vw, hid, st2, hD2, rp, hal, hw2⟩
  obtain ⟨wk1, wk2⟩ := wk (D0 :: S) A2 H2 vw st2.trk'
  by_cases hlt : i < ds.length
  · have hd : ds[i]? = some ds[i] := List.getElem?_eq_getElem hlt
    obtain ⟨go, yl⟩ := wk1 i _ hd
    refine .inr ⟨go, fun H' => i + 1 ≤ ds.length ∧ ∃ M2 A2 acc xs, A1 <+: A2 ∧ Same (view S A1 H1) (view (D0 :: S) A2 H') ∧ (∀ a ∈ S, H' a = H1 a) ∧ Sto K (D0 :: S) A2 H' M2 ∧ H' D0 = some (.lst xs) ∧ Reps K (view (D0 :: S) A2 H') acc xs ∧ acc.length ≤ i + 1 ∧
      wLcL wg wt we (wipeE env vs) (ds.drop (i + 1)) M2 acc (fun acc M2 => Q (.d (.lst acc)) M2), fun H' q => ⟨ds.length - (i + 1), by omega, rfl, q⟩, fun x H3 yd => ?_⟩
    obtain ⟨sm, rx⟩ := yl x H3 yd
    have st3 := st2.grow sm
    have p3 := st2.post sm
    rw [List.drop_eq_getElem_cons hlt] at hw2
    obtain ⟨N, hN, hw2⟩ := hw2
    have en3 : EnvOk _ K (D0 :: S) A2 H3 (wipeE env vs) (wipe σ vs) := ((en.mono p1).wipe vs).to pre (vw.trans p3.view) (fun a ha => List.mem_cons_of_mem _ ha) (fun a ha => (p3.hid a (List.mem_cons_of_mem _ ha)).trans (hid a ha))
    refine hg _ _ _ _ hw2 (D0 :: S) A2 (wipe σ vs) H3 x _ st3 en3 rx fun σ4 H4 env4 M4 A4 p4 s4 e4 wp hw4 => ?_
    have wp' : wipe σ4 vs = wipe σ vs := by
      rw [wp vs hs]
      have : ∀ ws us : List Nat, (∀ i ∈ us, i ∈ ws) → wipe (wipe σ us) ws = wipe σ ws := by
        intro ws us
        induction us with
        | nil => intro _; rfl
        | cons u us ih =>
          intro hu
          show wipe ((wipe σ us).set u none) ws = _
          rw [wipe_set (hu u List.mem_cons_self)]
          exact ih fun i hi => hu i (List.mem_cons_of_mem _ hi)
      exact this vs vs fun i hi => hi
    refine ⟨wp', ?_⟩
    refine ht _ _ _ hw4 (D0 :: S) A4 σ4 H4 _ s4 e4 fun b H5 M5 A5 p5 s5 hw5 => ?_
    have pp := (p3.trans p4).trans p5
    have hid5 : ∀ a ∈ S, H5 a = H1 a := fun a ha => (pp.hid a (List.mem_cons_of_mem _ ha)).trans (hid a ha)
    have hD5 : H5 D0 = some (.lst xs) := (pp.hid D0 List.mem_cons_self).trans hD2
    cases b with
    | false =>
      exact ⟨hlt, M5, A5, acc, xs, pre.trans pp.pre, vw.trans pp.view, hid5, s5, hD5, Reps.mono pp.view _ _ rp, by omega, hN _ _ hw5⟩
    | true =>
      refine he _ _ _ hw5 (D0 :: S) A5 σ4 H5 _ s5 (e4.mono p5) fun y H6 ry M6 A6 p6 s6 q6 ⟨z, ez, hw6⟩ => ?_
      subst ez
      have pp6 := pp.trans p6
      have hD6 : H6 D0 = some (.lst xs) := (p6.hid D0 List.mem_cons_self).trans hD5
      have rp6 : Reps K (view (D0 :: S) A6 H6) acc xs := Reps.mono pp6.view _ _ rp
      refine ⟨xs, hD6, by rw [rp6.len]; omega, hlt, ?_⟩
      have vset : view (D0 :: S) A6 (upd H6 D0 (.lst (xs ++ [y]))) = view (D0 :: S) A6 H6 := by
        funext b
        unfold view off
        by_cases e : b ∈ D0 :: S ++ A6
        · rw [if_pos e, if_pos e]
        · rw [if_neg e, if_neg e, upd_ne (fun z => e (by rw [z]; exact List.mem_cons_self))]
      have nA6 : D0 ∉ A6 := fun z => s6.dj D0 z List.mem_cons_self
      refine ⟨M6, A6, acc ++ [z], xs ++ [y], pre.trans pp6.pre, by rw [vset]; exact vw.trans pp6.view, fun a ha => ?_, ?_, upd_same, ?_, by rw [List.length_append]; simp; omega, hN _ _ hw6⟩
      · rw [upd_ne (fun (z : a = D0) => nS (by rw [← z]; exact ha))]
        exact (p6.hid a (List.mem_cons_of_mem _ ha)).trans (hid5 a ha)
      · refine ⟨s6.len, s6.nd, s6.dj, fun a ha => ?_, fun j mo a h1 h2 => ?_⟩
        · by_cases e : a = D0
          · subst e; exact ⟨_, upd_same⟩
          · rw [upd_ne e]; exact s6.trk a ha
        · exact (s6.mem j mo a h1 h2).to (upd_ne (fun (z : a = D0) => nA6 (by rw [← z]; exact List.mem_of_getElem? h2))) (by rw [vset]; exact Same.refl _)
      · rw [vset]
        exact Reps.app rp6 (Reps.one q6)
  · have e : i = ds.length := by omega
    subst e
    refine .inl ⟨wk2 _ (Nat.le_refl _), ?_⟩
    rw [List.drop_length] at hw2
    have nA2 : D0 ∉ A2 := fun z => st2.dj D0 z List.mem_cons_self
    have sb := sub A2 H2
    have hv : view S A2 H2 D0 = some (.lst xs) := off_of (fun z => (List.mem_append.mp z).elim nS nA2) hD2
    refine k (.ref D0) H2 acc M2 A2 (p1.trans ⟨pre, vw.trans sb, hid⟩) ⟨st2.len, st2.nd, fun a ha z => st2.dj a ha (List.mem_cons_of_mem _ z), fun a ha => st2.trk a (List.mem_cons_of_mem _ ha), fun j mo a h1 h2 => (st2.mem j mo a h1 h2).to rfl sb⟩ ⟨D0, xs, rfl, hv, Reps.mono sb _ _ rp⟩ hw2
theorem dnl_lcC {ti : TI} {g : TG} {tt : TT} {te : TE} {wi : WIC} {wg : WG} {wt : WT} {we : WE} {vs ss : List Nat} (hi : DnIC J K ti wi) (hg : DnG J K ss g wg) (ht : DnT J K tt wt) (he : Dn J K te we) (hs : ∀ i ∈ ss, i ∈ vs) : DnL J K (tLc ti g tt te vs) (wLcC wi wg wt we vs) := by
  intro env M Q hw S A σ H R st en k
  refine hi env M _ hw S A σ H _ st en fun J H1 ds chk M1 A1 p1 s1 wk ⟨hz, hw1⟩ => ?_
  intro D0 hD
  have fr := s1.fresh hD
  have nS : D0 ∉ S := fun z => fr (List.mem_append_left _ z)
  have nA : D0 ∉ A1 := fun z => fr (List.mem_append_right _ z)
  have sub : ∀ (A : List Addr) (H : Hp), Same (view (D0 :: S) A H) (view S A H) := fun A H => off_less fun a ha => List.mem_cons_of_mem _ ha
  have v0 : Same (view S A1 H1) (view (D0 :: S) A1 (upd H1 D0 (.lst []))) := fun b x e => by
    obtain ⟨n, q⟩ := off_some e
    have hb : b ≠ D0 := ne_of_none q hD
    refine off_of (fun z => ?_) (by rw [upd_ne hb]; exact q)
    rcases List.mem_cons.mp z with z | z
    · exact hb z
    · exact n z
  have st0 : Sto K (D0 :: S) A1 (upd H1 D0 (.lst [])) M1 := by
    refine ⟨s1.len, s1.nd, fun a ha z => ?_, fun a ha => ?_, fun i mo a h1 h2 => ?_⟩
    · rcases List.mem_cons.mp z with z | z
      · exact nA (z ▸ ha)
      · exact s1.dj a ha z
    · rcases List.mem_cons.mp ha with rfl | ha
      · exact ⟨_, upd_same⟩
      · obtain ⟨o, e⟩ := s1.trk a ha
        exact ⟨o, by rw [upd_ne (ne_of_none e hD)]; exact e⟩
    · refine (s1.mem i mo a h1 h2).to (upd_ne (fun (z : a = D0) => nA (by rw [← z]; exact List.mem_of_getElem? h2))) v0
  refine ⟨fun i m H2 => m = ds.length - i ∧ i ≤ ds.length ∧ ∃ M2 A2 acc xs, A1 <+: A2 ∧ Same (view S A1 H1) (view (D0 :: S) A2 H2) ∧ (∀ a ∈ S, H2 a = H1 a) ∧ Sto K (D0 :: S) A2 H2 M2 ∧ H2 D0 = some (.lst xs) ∧ Reps K (view (D0 :: S) A2 H2) acc xs ∧ acc.length ≤ i ∧
      wLcL (gChk chk wg) wt we (wipeE env vs) (ds.drop i) M2 acc (fun acc M2 => chk M2 ∧ Q (.d (.lst acc)) M2), ⟨ds.length, by simp, Nat.zero_le _, M1, A1, [], [], List.prefix_refl _, v0, fun a ha => upd_ne (fun (z : a = D0) => nS (by rw [← z]; exact ha)), st0, upd_same, rfl, by simp, by simpa using hw1⟩, ?_⟩
  rintro i m H2 ⟨rfl, hil, M2, A2, acc, xs, pre, vw, hid, st2, hD2, rp, hal, hw2⟩
  by_cases hlt : i < ds.length
  · have hd : ds[i]? = some ds[i] := List.getElem?_eq_getElem hlt
    rw [List.drop_eq_getElem_cons hlt] at hw2
    obtain ⟨N, hN, hck, hw2⟩ := hw2
    obtain ⟨wk1, wk2⟩ := wk (D0 :: S) A2 H2 M2 vw pre st2 hck
    obtain ⟨go, yl⟩ := wk1 i _ hd
    refine .inr ⟨go, fun H' => i + 1 ≤ ds.length ∧ ∃ M2 A2 acc xs, A1 <+: A2 ∧ Same (view S A1 H1) (view (D0 :: S) A2 H') ∧ (∀ a ∈ S, H' a = H1 a) ∧ Sto K (D0 :: S) A2 H' M2 ∧ H' D0 = some (.lst xs) ∧ Reps K (view (D0 :: S) A2 H') acc xs ∧ acc.length ≤ i + 1 ∧
      wLcL (gChk chk wg) wt we (wipeE env vs) (ds.drop (i + 1)) M2 acc (fun acc M2 => chk M2 ∧ Q (.d (.lst acc)) M2), fun H' q => ⟨ds.length - (i + 1), by omega, rfl, q⟩, fun x H3 yd => ?_⟩
    obtain ⟨sm, rx⟩ := yl x H3 yd
    have st3 := st2.grow sm
    have p3 := st2.post sm
    have en3 : EnvOk _ K (D0 :: S) A2 H3 (wipeE env vs) (wipe σ vs) := ((en.mono p1).wipe vs).to pre (vw.trans p3.view) (fun a ha => List.mem_cons_of_mem _ ha) (fun a ha => (p3.hid a (List.mem_cons_of_mem _ ha)).trans (hid a ha))
    refine hg _ _ _ _ hw2 (D0 :: S) A2 (wipe σ vs) H3 x _ st3 en3 rx fun σ4 H4 env4 M4 A4 p4 s4 e4 wp hw4 => ?_
    have wp' : wipe σ4 vs = wipe σ vs := by
      rw [wp vs hs]
      have : ∀ ws us : List Nat, (∀ i ∈ us, i ∈ ws) → wipe (wipe σ us) ws = wipe σ ws := by
        intro ws us
        induction us with
        | nil => intro _; rfl
        | cons u us ih =>
          intro hu
          show wipe ((wipe σ us).set u none) ws = _
          rw [wipe_set (hu u List.mem_cons_self)]
          exact ih fun i hi => hu i (List.mem_cons_of_mem _ hi)
      exact this vs vs fun i hi => hi
    refine ⟨wp', ?_⟩
    refine ht _ _ _ hw4 (D0 :: S) A4 σ4 H4 _ s4 e4 fun b H5 M5 A5 p5 s5 hw5 => ?_
    have pp := (p3.trans p4).trans p5
    have hid5 : ∀ a ∈ S, H5 a = H1 a := fun a ha => (pp.hid a (List.mem_cons_of_mem _ ha)).trans (hid a ha)
    have hD5 : H5 D0 = some (.lst xs) := (pp.hid D0 List.mem_cons_self).trans hD2
    cases b with
    | false =>
      exact ⟨hlt, M5, A5, acc, xs, pre.trans pp.pre, vw.trans pp.view, hid5, s5, hD5, Reps.mono pp.view _ _ rp, by omega, hN _ _ hw5⟩
    | true =>
      refine he _ _ _ hw5 (D0 :: S) A5 σ4 H5 _ s5 (e4.mono p5) fun y H6 ry M6 A6 p6 s6 q6 ⟨z, ez, hw6⟩ => ?_
      subst ez
      have pp6 := pp.trans p6
      have hD6 : H6 D0 = some (.lst xs) := (p6.hid D0 List.mem_cons_self).trans hD5
      have rp6 : Reps K (view (D0 :: S) A6 H6) acc xs := Reps.mono pp6.view _ _ rp
      refine ⟨xs, hD6, by rw [rp6.len]; omega, hlt, ?_⟩
      have vset : view (D0 :: S) A6 (upd H6 D0 (.lst (xs ++ [y]))) = view (D0 :: S) A6 H6 := by
        funext b
        unfold view off
        by_cases e : b ∈ D0 :: S ++ A6
        · rw [if_pos e, if_pos e]
        · rw [if_neg e, if_neg e, upd_ne (fun z => e (by rw [z]; exact List.mem_cons_self))]
      have nA6 : D0 ∉ A6 := fun z => s6.dj D0 z List.mem_cons_self
      refine ⟨M6, A6, acc ++ [z], xs ++ [y], pre.trans pp6.pre, by rw [vset]; exact vw.trans pp6.view, fun a ha => ?_, ?_, upd_same, ?_, by rw [List.length_append]; simp; omega, hN _ _ hw6⟩
      · rw [upd_ne (fun (z : a = D0) => nS (by rw [← z]; exact ha))]
        exact (p6.hid a (List.mem_cons_of_mem _ ha)).trans (hid5 a ha)
      · refine ⟨s6.len, s6.nd, s6.dj, fun a ha => ?_, fun j mo a h1 h2 => ?_⟩
        · by_cases e : a = D0
          · subst e; exact ⟨_, upd_same⟩
          · rw [upd_ne e]; exact s6.trk a ha
        · exact (s6.mem j mo a h1 h2).to (upd_ne (fun (z : a = D0) => nA6 (by rw [← z]; exact List.mem_of_getElem? h2))) (by rw [vset]; exact Same.refl _)
      · rw [vset]
        exact Reps.app rp6 (Reps.one q6)
  · have e : i = ds.length := by omega
    subst e
    rw [List.drop_length] at hw2
    obtain ⟨hck, hw2⟩ := hw2
    obtain ⟨wk1, wk2⟩ := wk (D0 :: S) A2 H2 M2 vw pre st2 hck
    refine .inl ⟨wk2 _ (Nat.le_refl _), ?_⟩
    have nA2 : D0 ∉ A2 := fun z => st2.dj D0 z List.mem_cons_self
    have sb := sub A2 H2
    have hv : view S A2 H2 D0 = some (.lst xs) := off_of (fun z => (List.mem_append.mp z).elim nS nA2) hD2
    refine k (.ref D0) H2 acc M2 A2 (p1.trans ⟨pre, vw.trans sb, hid⟩) ⟨st2.len, st2.nd, fun a ha z => st2.dj a ha (List.mem_cons_of_mem _ z), fun a ha => st2.trk a (List.mem_cons_of_mem _ ha), fun j mo a h1 h2 => (st2.mem j mo a h1 h2).to rfl sb⟩ ⟨D0, xs, rfl, hv, Reps.mono sb _ _ rp⟩ hw2
end
section
variable {X : Cx} {K : PySem.W.Frag} {J : Bs} {n0 : Nat} {tg iter elt e : Expr} {ifs : List Expr} {wi : WI} {wg : WG} {wt : WT} {we : WE} {ss : List Nat} {scope : Scope} {own : List (Str × Nat)} {pos : Pos}
theorem qel_lc (hc : X.calm = true) (hN : X.N.Nodup) (hi : QI J X tg iter wi) (ok : BlkOk X.N X.env.scope scope own) (hss : ∀ i ∈ ss, i ∈ own.map (·.2))
    (hg : ∀ (s : Shared) (H : Hp) (C : Addr) (cl : List (Str × Addr)) (fp : List Addr), QG J (X.blk s H scope (compEnvC scope cl C X.env) fp) ss tg wg)
    (ht : ∀ (s : Shared) (H : Hp) (C : Addr) (cl : List (Str × Addr)) (fp : List Addr), QTs J (X.blk s H scope (compEnvC scope cl C X.env) fp) ifs wt)
    (he : ∀ (s : Shared) (H : Hp) (C : Addr) (cl : List (Str × Addr)) (fp : List Addr), QE J (X.blk s H scope (compEnvC scope cl C X.env) fp) elt we) (hs : ∀ x, foldedSetIterable iter X.env x = pure x := by intro _; rfl) :
    QEL J X (.ListComp elt [⟨tg, iter, ifs, 0⟩] scope pos) (wLc wi wg wt we (own.map (·.2))) := by
  obtain ⟨ti, pi, di⟩ := hi
  exact ⟨_, pe_lc hc hN pi ok (g := canG J X.K ss wg) (tt := canT J X.K wt) (te := canE J X.K we) (fun s H C cl fp => (hg s H C cl fp).pg) (fun s H C cl fp => (ht s H C cl fp).pts) (fun s H C cl fp => (he s H C cl fp).pe) hs, dnl_lc di dng_can dnt_can dn_can hss⟩

end
section
variable {X : Cx} {K : PySem.W.Frag} {J : Bs} {n0 : Nat} {tg iter elt e : Expr} {ifs : List Expr} {wi : WIC} {wg : WG} {wt : WT} {we : WE} {ss : List Nat} {scope : Scope} {own : List (Str × Nat)} {pos : Pos}
theorem qel_lcC (hc : X.calm = true) (hN : X.N.Nodup) (hi : QIC J X tg iter wi) (ok : BlkOk X.N X.env.scope scope own) (hss : ∀ i ∈ ss, i ∈ own.map (·.2))
    (hg : ∀ (s : Shared) (H : Hp) (C : Addr) (cl : List (Str × Addr)) (fp : List Addr), QG J (X.blk s H scope (compEnvC scope cl C X.env) fp) ss tg wg)
    (ht : ∀ (s : Shared) (H : Hp) (C : Addr) (cl : List (Str × Addr)) (fp : List Addr), QTs J (X.blk s H scope (compEnvC scope cl C X.env) fp) ifs wt)
    (he : ∀ (s : Shared) (H : Hp) (C : Addr) (cl : List (Str × Addr)) (fp : List Addr), QE J (X.blk s H scope (compEnvC scope cl C X.env) fp) elt we) (hs : ∀ x, foldedSetIterable iter X.env x = pure x := by intro _; rfl) :
    QEL J X (.ListComp elt [⟨tg, iter, ifs, 0⟩] scope pos) (wLcC wi wg wt we (own.map (·.2))) := by
  obtain ⟨ti, pi, di⟩ := hi
  exact ⟨_, pe_lc hc hN pi ok (g := canG J X.K ss wg) (tt := canT J X.K wt) (te := canE J X.K we) (fun s H C cl fp => (hg s H C cl fp).pg) (fun s H C cl fp => (ht s H C cl fp).pts) (fun s H C cl fp => (he s H C cl fp).pe) hs, dnl_lcC di dng_can dnt_can dn_can hss⟩

end
section
variable {X : Cx} {J : Bs} {e i z : Expr} {we wd wk wz : WE} {pos : Pos}
/-- xs.extend(row) -/
def wExtL (wo we : WE) : WE := fun env M Q => wo env M fun o M1 => ∃ k, o = .o k ∧ (∃ mo0, M1[k]? = some mo0 ∧ ∃ ds0, mo0.ls = some ds0) ∧ we env M1 fun r M2 => ∃ mo, M2[k]? = some mo ∧ ∃ ds, mo.ls = some ds ∧ ∃ es, r = .d (.lst es) ∧ ds.length + es.length ≤ sizeLine ∧ Q (.d .non) (M2.set k (mo.put (ds ++ es)))
theorem qe_extendL {o : Expr} {wo : WE} {apos : Pos} (ho : QE J X o wo) (he : QEL J X e we) (hbase : attributeBase o "extend" X.env (eval o X.env) = eval o X.env := by rfl)
    (hfew : ((backTo pos (starEach [e] X.env)).all (fun x => !x.1) && (backToKw pos (keywordEach [] X.env)).all (fun x => x.1.isSome)
      && decide (([e] : List Expr).length + ([] : List Keyword).length + (if ([] : List Keyword).isEmpty then 0 else 1) < 30)) = true := by rfl)
    (hline : (apos.endLine == pos.line) = true := by rfl) (hs : starEach [e] X.env = (false, eval e X.env) :: starEach [] X.env := by rfl) (hplain : (backTo pos (starEach [] X.env)).any (·.1) = false := by rfl) :
    QE J X (.Call (.Attribute o "extend" apos) [e] [] pos) (wExtL wo we) := by
  obtain ⟨to, po, do_⟩ := ho
  obtain ⟨te, pe, de⟩ := he
  refine ⟨_, pe_bm PySem.F.plainAttrs_list PySem.F.slot_list_extend PySem.F.type_list_extend mt_extend po (pa_cons pe pa_nil hs) hbase hfew hline hs hplain, fun env M Q hw S A σ H R st en k => ?_⟩
  refine do_ env M _ hw S A σ H _ st en fun v H1 o1 M1 A1 p1 s1 q1 ⟨i, e1, ⟨mo0, e2, ds0, e2'⟩, hw1⟩ => ?_
  subst e1
  obtain ⟨x, hx, rfl⟩ := q1
  obtain ⟨vs0, g0, _⟩ := (s1.mem i _ x e2 hx).lsD e2'
  refine ⟨.inl ⟨rfl, vs0, .inl (.inl g0)⟩, ?_⟩
  refine de env M1 _ hw1 S A1 σ H1 _ s1 (en.mono p1) fun u H2 es' M2 A2 p2 s2 q2 ⟨mo, e3, ds, e3', es, e4, hz, hq⟩ => ?_
  cases e4
  obtain ⟨b, us, rfl, hb, rb⟩ := q2
  have hx2 : A2[i]? = some x := by
    obtain ⟨t, ht⟩ := p2.pre
    rw [← ht, List.getElem?_append_left (List.getElem?_eq_some_iff.mp hx).1]
    exact hx
  obtain ⟨vs, g1, g2⟩ := (s2.mem i _ x e3 hx2).lsD e3'
  refine ⟨x, b, vs, us, rfl, rfl, g1, (off_some hb).2, by rw [g2.len, rb.len]; exact hz, ?_⟩
  obtain ⟨s4, p4⟩ := s2.set (o := .lst (vs ++ us)) (mo := mo.put (ds ++ es')) hx2 ((s2.mem i _ x e3 hx2).put e3' upd_same (by rw [view_set (List.mem_of_getElem? hx2)]; exact Reps.app g2 rb))
  exact k .non _ (.d .non) _ A2 ((p1.trans p2).trans p4) s4 (show V.non = V.non from rfl) hq
/-- d.get(k, x) -/
def wDGet2 (wd wk wz : WE) : WE := fun env M Q => wd env M fun x M1 => ∃ j, x = .o j ∧ (∃ mo0, M1[j]? = some mo0 ∧ ∃ kv0, mo0.dc = some kv0) ∧ wk env M1 fun y M2 => wz env M2 fun z M3 => ∃ q, y = .d q ∧ ∃ key, keyD q = some key ∧ ∃ mo, M3[j]? = some mo ∧ ∃ kvs, mo.dc = some kvs ∧ ∃ d, z = .d d ∧ Q (.d ((dGetK kvs key).getD d)) M3
theorem qe_dget2 {o : Expr} {apos : Pos} (hu : X.A.units + 64 < cLine) (ho : QE J X o wd) (hi : QE J X i wk) (hz : QE J X z wz) (hbase : attributeBase o "get" X.env (eval o X.env) = eval o X.env := by rfl)
    (hfew : ((backTo pos (starEach [i, z] X.env)).all (fun x => !x.1) && (backToKw pos (keywordEach [] X.env)).all (fun x => x.1.isSome)
      && decide (([i, z] : List Expr).length + ([] : List Keyword).length + (if ([] : List Keyword).isEmpty then 0 else 1) < 30)) = true := by rfl)
    (hline : (apos.endLine == pos.line) = true := by rfl) (htr : backTo pos (starEach [i, z] X.env) = [(false, eval i X.env), (false, eval z X.env)] := by rfl) :
    QE J X (.Call (.Attribute o "get" apos) [i, z] [] pos) (wDGet2 wd wk wz) := by
  obtain ⟨tk, pk, dk⟩ := hi
  obtain ⟨td, pd, dd⟩ := ho
  obtain ⟨tz, pz, dz⟩ := hz
  refine ⟨_, pe_dget2 (by omega) pd pk pz ⟨hbase, hfew, hline, htr⟩, fun env M Q hw S A σ H R st en k => ?_⟩
  refine dd env M _ hw S A σ H _ st en fun v1 H1 r1 M1 A1 p1 s1 q1 ⟨j, e1, ⟨mo0, e2, kv0, e2'⟩, hw1⟩ => ?_
  subst e1
  obtain ⟨a, ha, rfl⟩ := q1
  obtain ⟨us0, g0, _⟩ := (s1.mem j mo0 a e2 ha).dcD e2'
  refine ⟨a, rfl, .inl ⟨us0, .inl g0⟩, ?_⟩
  refine dk env M1 _ hw1 S A1 σ H1 _ s1 (en.mono p1) fun v2 H2 r2 M2 A2 p2 s2 q2 hw2 => ?_
  refine dz env M2 _ hw2 S A2 σ H2 _ s2 ((en.mono p1).mono p2) fun v3 H3 r3 M3 A3 p3 s3 q3 ⟨q, e3, key, e4, mo, e5, kvs, e6, d, e7, hq⟩ => ?_
  subst e3 e7
  have pp := p2.trans p3
  have ha3 : A3[j]? = some a := by
    obtain ⟨t, ht⟩ := pp.pre
    rw [← ht, List.getElem?_append_left (List.getElem?_eq_some_iff.mp ha).1]
    exact ha
  obtain ⟨us, g1, g2⟩ := (s3.mem j mo a e5 ha3).dcD e6
  refine ⟨valV us key, .inl ⟨us, key, .inl g1, keyD_rep e4 q2, rfl⟩, ?_⟩
  rcases g2.get key with ⟨e7, e8⟩ | ⟨d', v, e7, e8, rv⟩
  · rw [e7] at hq
    rw [e8]
    exact k v3 H3 (.d d) M3 A3 (p1.trans pp) s3 q3 hq
  · rw [e7] at hq
    rw [e8]
    exact k v H3 (.d d') M3 A3 (p1.trans pp) s3 rv hq
end
theorem rm1 : type_of% @wExtL.eq_1 := @wExtL.eq_1
theorem rm2 : type_of% @wDGet2.eq_1 := @wDGet2.eq_1
end Dw
set_option Elab.async false
set_option linter.all false
set_option maxRecDepth 100000
set_option maxHeartbeats 4000000
/-! DwN: list comprehensions with two fors. -/
namespace Dw
open PySem PySem.Spec PyProof.Rows L2
def wLc2L (wg : WG) (wt : WT) (wi1 : WI) (wg1 : WG) (wt1 : WT) (we : WE) (vs1 : List Nat) (env : Env') : List D → Mem → List D → (List D → Mem → Prop) → Prop
  | [], M, acc, Q => Q acc M
  | d :: ds, M, acc, Q => ∃ N : Mem → List D → Prop, (∀ m a, N m a → wLc2L wg wt wi1 wg1 wt1 we vs1 env ds m a Q) ∧ wg (.d d) env M fun env1 M1 => wt env1 M1 fun b M2 =>
      if b = true then wi1 env1 M2 fun ds1 M3 => acc.length + ds1.length ≤ sizeLine ∧ wLcL wg1 wt1 we (wipeE env1 vs1) ds1 M3 acc fun acc' M4 => N M4 acc' else N M2 acc
def wLc2 (wi : WI) (wg : WG) (wt : WT) (wi1 : WI) (wg1 : WG) (wt1 : WT) (we : WE) (vs vs1 : List Nat) : WE := fun env M Q => wi env M fun ds M1 => wLc2L wg wt wi1 wg1 wt1 we vs1 (wipeE env vs) ds M1 [] fun acc M2 => Q (.d (.lst acc)) M2
section
variable {X : Cx} {K : PySem.W.Frag} {J : Bs}
theorem EnvOk.to2 {S S' A A' : List Addr} {H H' : Hp} {env : Env'} {σ : L2.St} (h : EnvOk J K S A H env σ) (p : A <+: A') (e : Same (view S A H) (view S' A' H')) (hs : ∀ a ∈ J.S0, a ∈ S') (hh : ∀ a ∈ J.S0, H' a = H a) : EnvOk J K S' A' H' env σ :=
  ⟨⟨fun a ha => hs a ha, fun a ha => (hh a ha).trans (h.j.hid a ha), h.j.view.trans e⟩, h.len, fun i r q => let ⟨v, e1, e2⟩ := h.at_ i r q; ⟨v, e1, e2.to p e⟩⟩
theorem wipe_wipe {σ : L2.St} : ∀ ws us : List Nat, (∀ i ∈ us, i ∈ ws) → wipe (wipe σ us) ws = wipe σ ws := by
  intro ws us
  induction us with
  | nil => intro _; rfl
  | cons u us ih =>
    intro hu
    show wipe ((wipe σ us).set u none) ws = _
    rw [wipe_set (hu u List.mem_cons_self)]
    exact ih fun i hi => hu i (List.mem_cons_of_mem _ hi)
theorem dn_lc2 {ti ti1 : TI} {g g1 : TG} {tt tt1 : TT} {te : TE} {wi wi1 : WI} {wg wg1 : WG} {wt wt1 : WT} {we : WE} {vs vs1 ss ss1 : List Nat} (hi : DnI J K ti wi) (hg : DnG J K ss g wg) (ht : DnT J K tt wt)
    (hi1 : DnI J K ti1 wi1) (hg1 : DnG J K ss1 g1 wg1) (ht1 : DnT J K tt1 wt1) (he : Dn J K te we) (hs : ∀ i ∈ ss, i ∈ vs) (hs1 : ∀ i ∈ ss1, i ∈ vs1) : Dn J K (tLc2 ti g tt ti1 g1 tt1 te vs vs1) (wLc2 wi wg wt wi1 wg1 wt1 we vs vs1) := by
  intro env M Q hw S A σ H R st en k
  refine hi env M _ hw S A σ H _ st en fun J0 H1 ds M1 A1 p1 s1 wk hw1 => ?_
  intro D0 hD
  have fr := s1.fresh hD
  have nS : D0 ∉ S := fun z => fr (List.mem_append_left _ z)
  have nA : D0 ∉ A1 := fun z => fr (List.mem_append_right _ z)
  have sub : ∀ (A : List Addr) (H : Hp), Same (view (D0 :: S) A H) (view S A H) := fun A H => off_less fun a ha => List.mem_cons_of_mem _ ha
  have v0 : Same (view S A1 H1) (view (D0 :: S) A1 (upd H1 D0 (.lst []))) := fun b x e => by
    obtain ⟨n, q⟩ := off_some e
    have hb : b ≠ D0 := ne_of_none q hD
    refine off_of (fun z => ?_) (by rw [upd_ne hb]; exact q)
    rcases List.mem_cons.mp z with z | z
    · exact hb z
    · exact n z
  have st0 : Sto K (D0 :: S) A1 (upd H1 D0 (.lst [])) M1 := by
    refine ⟨s1.len, s1.nd, fun a ha z => ?_, fun a ha => ?_, fun i mo a h1 h2 => ?_⟩
    · rcases List.mem_cons.mp z with z | z
      · exact nA (z ▸ ha)
      · exact s1.dj a ha z
    · rcases List.mem_cons.mp ha with rfl | ha
      · exact ⟨_, upd_same⟩
      · obtain ⟨o, e⟩ := s1.trk a ha
        exact ⟨o, by rw [upd_ne (ne_of_none e hD)]; exact e⟩
    · refine (s1.mem i mo a h1 h2).to (upd_ne (fun (z : a = D0) => nA (by rw [← z]; exact List.mem_of_getElem? h2))) v0
  have jS : ∀ a ∈ J.S0, a ∈ S := en.j.sub
  refine ⟨fun i m H2 => m = ds.length - i ∧ i ≤ ds.length ∧ ∃ M2 A2 acc xs, A1 <+: A2 ∧ Same (view S A1 H1) (view (D0 :: S) A2 H2) ∧ (∀ a ∈ S, H2 a = H1 a) ∧ Sto K (D0 :: S) A2 H2 M2 ∧ H2 D0 = some (.lst xs) ∧ Reps K (view (D0 :: S) A2 H2) acc xs ∧
      wLc2L wg wt wi1 wg1 wt1 we vs1 (wipeE env vs) (ds.drop i) M2 acc (fun acc M2 => Q (.d (.lst acc)) M2), ⟨ds.length, by simp, Nat.zero_le _, M1, A1, [], [], List.prefix_refl _, v0, fun a ha => upd_ne (fun (z : a = D0) => nS (by rw [← z]; exact ha)), st0, upd_same, rfl, by simpa using hw1⟩, ?_⟩
  rintro i m H2 ⟨rfl, hil, M2, A2, acc, xs, pre, vw, hid, st2, hD2, rp, hw2⟩
  obtain ⟨wk1, wk2⟩ := wk (D0 :: S) A2 H2 vw st2.trk'
  by_cases hlt : i < ds.length
  · have hd : ds[i]? = some ds[i] := List.getElem?_eq_getElem hlt
    obtain ⟨go, yl⟩ := wk1 i _ hd
    rw [List.drop_eq_getElem_cons hlt] at hw2
    obtain ⟨N, hN, hw2⟩ := hw2
    refine .inr ⟨go, fun H' => i + 1 ≤ ds.length ∧ ∃ M2 A2 acc xs, A1 <+: A2 ∧ Same (view S A1 H1) (view (D0 :: S) A2 H') ∧ (∀ a ∈ S, H' a = H1 a) ∧ Sto K (D0 :: S) A2 H' M2 ∧ H' D0 = some (.lst xs) ∧ Reps K (view (D0 :: S) A2 H') acc xs ∧
      N M2 acc, fun H' ⟨q0, M2, A2, acc, xs, q1, q2, q3, q4, q5, q6, q7⟩ => ⟨ds.length - (i + 1), by omega, rfl, q0, M2, A2, acc, xs, q1, q2, q3, q4, q5, q6, hN _ _ q7⟩, fun x H3 yd => ?_⟩
    obtain ⟨sm, rx⟩ := yl x H3 yd
    have st3 := st2.grow sm
    have p3 := st2.post sm
    have en3 : EnvOk _ K (D0 :: S) A2 H3 (wipeE env vs) (wipe σ vs) := ((en.mono p1).wipe vs).to pre (vw.trans p3.view) (fun a ha => List.mem_cons_of_mem _ ha) (fun a ha => (p3.hid a (List.mem_cons_of_mem _ ha)).trans (hid a ha))
    refine hg _ _ _ _ hw2 (D0 :: S) A2 (wipe σ vs) H3 x _ st3 en3 rx fun σ4 H4 env4 M4 A4 p4 s4 e4 wp hw4 => ?_
    have wp' : wipe σ4 vs = wipe σ vs := by rw [wp vs hs]; exact wipe_wipe vs vs fun i hi => hi
    refine ⟨wp', ?_⟩
    refine ht _ _ _ hw4 (D0 :: S) A4 σ4 H4 _ s4 e4 fun b H5 M5 A5 p5 s5 hw5 => ?_
    have pp := (p3.trans p4).trans p5
    have hid5 : ∀ a ∈ S, H5 a = H1 a := fun a ha => (pp.hid a (List.mem_cons_of_mem _ ha)).trans (hid a ha)
    have hD5 : H5 D0 = some (.lst xs) := (pp.hid D0 List.mem_cons_self).trans hD2
    have rp5 : Reps K (view (D0 :: S) A5 H5) acc xs := Reps.mono pp.view _ _ rp
    cases b with
    | false => exact ⟨hlt, M5, A5, acc, xs, pre.trans pp.pre, vw.trans pp.view, hid5, s5, hD5, rp5, hw5⟩
    | true =>
      refine hi1 env4 M5 _ hw5 (D0 :: S) A5 σ4 H5 _ s5 (e4.mono p5) fun J1 H6 es M6 A6 p6 s6 wk6 ⟨hz, hw6⟩ => ?_
      have hD6 : H6 D0 = some (.lst xs) := (p6.hid D0 List.mem_cons_self).trans hD5
      have rp6 : Reps K (view (D0 :: S) A6 H6) acc xs := Reps.mono p6.view _ _ rp5
      have hid6 : ∀ a ∈ S, H6 a = H1 a := fun a ha => (p6.hid a (List.mem_cons_of_mem _ ha)).trans (hid5 a ha)
      have vw6 := (vw.trans pp.view).trans p6.view
      have pre6 := (pre.trans pp.pre).trans p6.pre
      have en6 := (e4.mono p5).mono p6
      refine ⟨fun j k H7 => k = es.length - j ∧ j ≤ es.length ∧ ∃ M7 A7 acc7 xs7, A6 <+: A7 ∧ Same (view (D0 :: S) A6 H6) (view (D0 :: S) A7 H7) ∧ (∀ a ∈ S, H7 a = H1 a) ∧ Sto K (D0 :: S) A7 H7 M7 ∧ H7 D0 = some (.lst xs7) ∧ Reps K (view (D0 :: S) A7 H7) acc7 xs7 ∧ acc7.length ≤ acc.length + j ∧
          wLcL wg1 wt1 we (wipeE env4 vs1) (es.drop j) M7 acc7 (fun acc' M4 => N M4 acc'), ⟨es.length, by simp, Nat.zero_le _, M6, A6, acc, xs, List.prefix_refl _, Same.refl _, hid6, s6, hD6, rp6, by simp, by simpa using hw6⟩, ?_⟩
      rintro j k7 H7 ⟨rfl, hjl, M7, A7, acc7, xs7, pre7, vw7, hid7, st7, hD7, rp7, hal7, hw7⟩
      obtain ⟨wj1, wj2⟩ := wk6 (D0 :: S) A7 H7 vw7 st7.trk'
      by_cases hjt : j < es.length
      · have hd7 : es[j]? = some es[j] := List.getElem?_eq_getElem hjt
        obtain ⟨go7, yl7⟩ := wj1 j _ hd7
        rw [List.drop_eq_getElem_cons hjt] at hw7
        obtain ⟨N1, hN1, hw7⟩ := hw7
        refine .inr ⟨go7, fun H' => j + 1 ≤ es.length ∧ ∃ M7 A7 acc7 xs7, A6 <+: A7 ∧ Same (view (D0 :: S) A6 H6) (view (D0 :: S) A7 H') ∧ (∀ a ∈ S, H' a = H1 a) ∧ Sto K (D0 :: S) A7 H' M7 ∧ H' D0 = some (.lst xs7) ∧ Reps K (view (D0 :: S) A7 H') acc7 xs7 ∧ acc7.length ≤ acc.length + (j + 1) ∧ N1 M7 acc7,
          fun H' ⟨q0, M7, A7, acc7, xs7, q1, q2, q3, q4, q5, q6, q7, q8⟩ => ⟨es.length - (j + 1), by omega, rfl, q0, M7, A7, acc7, xs7, q1, q2, q3, q4, q5, q6, q7, hN1 _ _ q8⟩, fun x7 H8 yd7 => ?_⟩
        obtain ⟨sm8, rx8⟩ := yl7 x7 H8 yd7
        have st8 := st7.grow sm8
        have p8 := st7.post sm8
        have en8 : EnvOk _ K (D0 :: S) A7 H8 (wipeE env4 vs1) (wipe σ4 vs1) := (en6.wipe vs1).to2 pre7 (vw7.trans p8.view) (fun a ha => List.mem_cons_of_mem _ (jS a ha)) (fun a ha => by
          have h := jS a ha
          rw [p8.hid a (List.mem_cons_of_mem _ h), hid7 a h, hid6 a h])
        refine hg1 _ _ _ _ hw7 (D0 :: S) A7 (wipe σ4 vs1) H8 x7 _ st8 en8 rx8 fun σ9 H9 env9 M9 A9 p9 s9 e9 wp9 hw9 => ?_
        have wp9' : wipe σ9 vs1 = wipe σ4 vs1 := by rw [wp9 vs1 hs1]; exact wipe_wipe vs1 vs1 fun i hi => hi
        refine ⟨wp9', ?_⟩
        refine ht1 _ _ _ hw9 (D0 :: S) A9 σ9 H9 _ s9 e9 fun b Ha Ma Aa pa sa hwa => ?_
        have qq := (p8.trans p9).trans pa
        have hida : ∀ a ∈ S, Ha a = H1 a := fun a ha => (qq.hid a (List.mem_cons_of_mem _ ha)).trans (hid7 a ha)
        have hDa : Ha D0 = some (.lst xs7) := (qq.hid D0 List.mem_cons_self).trans hD7
        cases b with
        | false =>
          exact ⟨hjt, Ma, Aa, acc7, xs7, pre7.trans qq.pre, vw7.trans qq.view, hida, sa, hDa, Reps.mono qq.view _ _ rp7, by omega, hwa⟩
        | true =>
          refine he _ _ _ hwa (D0 :: S) Aa σ9 Ha _ sa (e9.mono pa) fun y Hb ry Mb Ab pb sb qb ⟨z, ez, hwb⟩ => ?_
          subst ez
          have qq6 := qq.trans pb
          have hDb : Hb D0 = some (.lst xs7) := (pb.hid D0 List.mem_cons_self).trans hDa
          have rpb : Reps K (view (D0 :: S) Ab Hb) acc7 xs7 := Reps.mono qq6.view _ _ rp7
          refine ⟨xs7, hDb, by rw [rpb.len]; omega, hjt, ?_⟩
          have vset : view (D0 :: S) Ab (upd Hb D0 (.lst (xs7 ++ [y]))) = view (D0 :: S) Ab Hb := by
            funext b
            unfold view off
            by_cases e : b ∈ D0 :: S ++ Ab
            · rw [if_pos e, if_pos e]
            · rw [if_neg e, if_neg e, upd_ne (fun z => e (by rw [z]; exact List.mem_cons_self))]
          have nAb : D0 ∉ Ab := fun z => sb.dj D0 z List.mem_cons_self
          refine ⟨Mb, Ab, acc7 ++ [z], xs7 ++ [y], pre7.trans qq6.pre, by rw [vset]; exact vw7.trans qq6.view, fun a ha => ?_, ?_, upd_same, ?_, by rw [List.length_append]; simp; omega, hwb⟩
          · rw [upd_ne (fun (z : a = D0) => nS (by rw [← z]; exact ha))]
            exact (pb.hid a (List.mem_cons_of_mem _ ha)).trans (hida a ha)
          · refine ⟨sb.len, sb.nd, sb.dj, fun a ha => ?_, fun j mo a h1 h2 => ?_⟩
            · by_cases e : a = D0
              · subst e; exact ⟨_, upd_same⟩
              · rw [upd_ne e]; exact sb.trk a ha
            · exact (sb.mem j mo a h1 h2).to (upd_ne (fun (z : a = D0) => nAb (by rw [← z]; exact List.mem_of_getElem? h2))) (by rw [vset]; exact Same.refl _)
          · rw [vset]
            exact Reps.app rpb (Reps.one qb)
      · have e : j = es.length := by omega
        subst e
        rw [List.drop_length] at hw7
        exact .inl ⟨wj2 _ (Nat.le_refl _), hlt, M7, A7, acc7, xs7, pre6.trans pre7, vw6.trans vw7, hid7, st7, hD7, rp7, hw7⟩
  · have e : i = ds.length := by omega
    subst e
    refine .inl ⟨wk2 _ (Nat.le_refl _), ?_⟩
    rw [List.drop_length] at hw2
    have nA2 : D0 ∉ A2 := fun z => st2.dj D0 z List.mem_cons_self
    have sb := sub A2 H2
    refine k (.ref D0) H2 (.d (.lst acc)) M2 A2 (p1.trans ⟨pre, vw.trans sb, hid⟩) ⟨st2.len, st2.nd, fun a ha z => st2.dj a ha (List.mem_cons_of_mem _ z), fun a ha => st2.trk a (List.mem_cons_of_mem _ ha), fun j mo a h1 h2 => (st2.mem j mo a h1 h2).to rfl sb⟩ ?_ hw2
    exact ⟨D0, xs, rfl, .inl (.inl (off_of (fun z => (List.mem_append.mp z).elim nS nA2) hD2)), Reps.mono sb _ _ rp⟩
end
def canI (J : Bs) (K : PySem.W.Frag) (wi : WI) : TI := fun σ H R => ∃ (env : Env') (M : Mem) (Q : List D → Mem → Prop) (S A : List Addr), wi env M Q ∧ Sto K S A H M ∧ EnvOk J K S A H env σ ∧
  ∀ (J0 : It) (H' : Hp) (ds : List D) (M' : Mem) (A' : List Addr), Post S A H A' H' → Sto K S A' H' M' → Wlk K S A' H' J0 ds → Q ds M' → R J0 H'
section
variable {X : Cx} {K : PySem.W.Frag} {J : Bs} {n0 : Nat} {tg iter tg1 iter1 elt e : Expr} {ifs ifs1 : List Expr} {wi wi1 : WI} {wg wg1 : WG} {wt wt1 : WT} {we : WE} {ss ss1 vs1 : List Nat} {scope : Scope} {own : List (Str × Nat)} {pos : Pos}
theorem QI.pi (h : QI J X tg iter wi) : PI X tg iter (canI J X.K wi) := by
  obtain ⟨ti, pi, di⟩ := h
  exact ⟨fun pins s σ H R I ⟨env, M, Q, S, A, hw, st, en, k⟩ => pi.run pins s σ H R I (di env M Q hw S A σ H R st en k)⟩
theorem dni_can : DnI J K (canI J K wi) wi := fun env M Q hw S A σ H R st en k => ⟨env, M, Q, S, A, hw, st, en, k⟩
theorem qe_lc2 (hc : X.calm = true) (hN : X.N.Nodup) (hi : QI J X tg iter wi) (ok : BlkOk X.N X.env.scope scope own) (hss : ∀ i ∈ ss, i ∈ own.map (·.2)) (hv : ∀ i ∈ vs1, i ∈ own.map (·.2)) (hss1 : ∀ i ∈ ss1, i ∈ vs1)
    (hg : ∀ (s : Shared) (H : Hp) (C : Addr) (cl : List (Str × Addr)) (fp : List Addr), QG J (X.blk s H scope (compEnvC scope cl C X.env) fp) ss tg wg)
    (ht : ∀ (s : Shared) (H : Hp) (C : Addr) (cl : List (Str × Addr)) (fp : List Addr), QTs J (X.blk s H scope (compEnvC scope cl C X.env) fp) ifs wt)
    (hi1 : ∀ (s : Shared) (H : Hp) (C : Addr) (cl : List (Str × Addr)) (fp : List Addr), QI J (X.blk s H scope (compEnvC scope cl C X.env) fp) tg1 iter1 wi1)
    (hg1 : ∀ (s : Shared) (H : Hp) (C : Addr) (cl : List (Str × Addr)) (fp : List Addr), QG J (X.blk s H scope (compEnvC scope cl C X.env) fp) ss1 tg1 wg1)
    (ht1 : ∀ (s : Shared) (H : Hp) (C : Addr) (cl : List (Str × Addr)) (fp : List Addr), QTs J (X.blk s H scope (compEnvC scope cl C X.env) fp) ifs1 wt1)
    (he : ∀ (s : Shared) (H : Hp) (C : Addr) (cl : List (Str × Addr)) (fp : List Addr), QE J (X.blk s H scope (compEnvC scope cl C X.env) fp) elt we) (hs : ∀ x, foldedSetIterable iter X.env x = pure x := by intro _; rfl) (hs1 : ∀ env x, foldedSetIterable iter1 env x = pure x := by intro _ _; rfl) :
    QE J X (.ListComp elt [⟨tg, iter, ifs, 0⟩, ⟨tg1, iter1, ifs1, 0⟩] scope pos) (wLc2 wi wg wt wi1 wg1 wt1 we (own.map (·.2)) vs1) := by
  obtain ⟨ti, pi, di⟩ := hi
  exact ⟨_, pe_lc2 hc hN pi ok hv (g := canG J X.K ss wg) (tt := canT J X.K wt) (wi1 := canI J X.K wi1) (g1 := canG J X.K ss1 wg1) (tt1 := canT J X.K wt1) (te := canE J X.K we) (fun s H C cl fp => (hg s H C cl fp).pg) (fun s H C cl fp => (ht s H C cl fp).pts) (fun s H C cl fp => (hi1 s H C cl fp).pi) (fun s H C cl fp => (hg1 s H C cl fp).pg) (fun s H C cl fp => (ht1 s H C cl fp).pts) (fun s H C cl fp => (he s H C cl fp).pe) hs hs1,
    dn_lc2 di dng_can dnt_can dni_can dng_can dnt_can dn_can hss hss1⟩
theorem qs_setLc2 {i : Nat} {y : Str} {py spos : Pos} (hc : X.calm = true) (hN : X.N.Nodup) (hy : X.N[i]? = some y) (hyl : X.env.scope.names.lookup y = some .local)
    (hsw : swapsWith (.ListComp elt [⟨tg, iter, ifs, 0⟩, ⟨tg1, iter1, ifs1, 0⟩] scope pos) (some (.Name y py)) spos.line X.env = pure true) (hi : QI J X tg iter wi) (ok : BlkOk X.N X.env.scope scope own) (hss : ∀ i ∈ ss, i ∈ own.map (·.2)) (hv : ∀ i ∈ vs1, i ∈ own.map (·.2)) (hss1 : ∀ i ∈ ss1, i ∈ vs1)
    (hg : ∀ (s : Shared) (H : Hp) (C : Addr) (cl : List (Str × Addr)) (fp : List Addr), QG J (X.blk s H scope (compEnvC scope cl C X.env) fp) ss tg wg)
    (ht : ∀ (s : Shared) (H : Hp) (C : Addr) (cl : List (Str × Addr)) (fp : List Addr), QTs J (X.blk s H scope (compEnvC scope cl C X.env) fp) ifs wt)
    (hi1 : ∀ (s : Shared) (H : Hp) (C : Addr) (cl : List (Str × Addr)) (fp : List Addr), QI J (X.blk s H scope (compEnvC scope cl C X.env) fp) tg1 iter1 wi1)
    (hg1 : ∀ (s : Shared) (H : Hp) (C : Addr) (cl : List (Str × Addr)) (fp : List Addr), QG J (X.blk s H scope (compEnvC scope cl C X.env) fp) ss1 tg1 wg1)
    (ht1 : ∀ (s : Shared) (H : Hp) (C : Addr) (cl : List (Str × Addr)) (fp : List Addr), QTs J (X.blk s H scope (compEnvC scope cl C X.env) fp) ifs1 wt1)
    (he : ∀ (s : Shared) (H : Hp) (C : Addr) (cl : List (Str × Addr)) (fp : List Addr), QE J (X.blk s H scope (compEnvC scope cl C X.env) fp) elt we) (hs : ∀ x, foldedSetIterable iter X.env x = pure x := by intro _; rfl) (hs1 : ∀ env x, foldedSetIterable iter1 env x = pure x := by intro _ _; rfl) :
    QS J X n0 (.Assign [.Name y py] (.ListComp elt [⟨tg, iter, ifs, 0⟩, ⟨tg1, iter1, ifs1, 0⟩] scope pos) spos) (sSet i (wLc2 wi wg wt wi1 wg1 wt1 we (own.map (·.2)) vs1)) := by
  obtain ⟨ti, pi, di⟩ := hi
  exact ⟨_, ps_setLc2 hc hN hy hyl hsw pi ok hv (g := canG J X.K ss wg) (tt := canT J X.K wt) (wi1 := canI J X.K wi1) (g1 := canG J X.K ss1 wg1) (tt1 := canT J X.K wt1) (te := canE J X.K we) (fun s H C cl fp => (hg s H C cl fp).pg) (fun s H C cl fp => (ht s H C cl fp).pts) (fun s H C cl fp => (hi1 s H C cl fp).pi) (fun s H C cl fp => (hg1 s H C cl fp).pg) (fun s H C cl fp => (ht1 s H C cl fp).pts) (fun s H C cl fp => (he s H C cl fp).pe) hs hs1,
    dns_set (dn_lc2 di dng_can dnt_can dni_can dng_can dnt_can dn_can hss hss1)⟩
end
/-- each turn of the outer for by an invariant over the row so far -/
theorem lc2_inv {wg : WG} {wt : WT} {wi1 : WI} {wg1 : WG} {wt1 : WT} {we : WE} {vs1 : List Nat} {env : Env'} {Q : List D → Mem → Prop} (I : Nat → Mem → List D → Prop) : ∀ (ds : List D) (k : Nat) {M : Mem} {acc : List D}, I k M acc →
    (∀ (i : Nat) (d : D) (M : Mem) (acc : List D), ds[i]? = some d → I (k + i) M acc → wg (.d d) env M fun env1 M1 => wt env1 M1 fun b M2 =>
      if b = true then wi1 env1 M2 fun ds1 M3 => acc.length + ds1.length ≤ sizeLine ∧ wLcL wg1 wt1 we (wipeE env1 vs1) ds1 M3 acc fun acc' M4 => I (k + i + 1) M4 acc' else I (k + i + 1) M2 acc) →
    (∀ M acc, I (k + ds.length) M acc → Q acc M) → wLc2L wg wt wi1 wg1 wt1 we vs1 env ds M acc Q
  | [], k, M, acc, h0, _, hd => hd M acc (by simpa using h0)
  | d :: ds, k, M, acc, h0, hs, hd => by
    refine ⟨fun m a => I (k + 1) m a, fun m a h => lc2_inv I ds (k + 1) h (fun i d M acc e hI => ?_) (fun M acc hI => hd M acc (by rw [List.length_cons]; rwa [show k + (ds.length + 1) = k + 1 + ds.length by omega])), by simpa using hs 0 d M acc rfl (by simpa using h0)⟩
    have := hs (i + 1) d M acc (by simpa using e) (by rwa [show k + (i + 1) = k + 1 + i by omega])
    rwa [show k + (i + 1) = k + 1 + i by omega] at this
theorem rn1 : type_of% @wLc2.eq_1 := @wLc2.eq_1
end Dw
set_option Elab.async false
set_option linter.all false
set_option maxRecDepth 100000
set_option maxHeartbeats 4000000
/-! DwV: dicts as data: comprehensions, d[k], d.get(k, x), k in d. -/
namespace Dw
open PySem PySem.Spec PyProof.Rows L2
def wDcD (wi : WI) (wg : WG) (wt : WT) (wk wv : WE) (vs : List Nat) : WE := fun env M Q => wi env M fun ds M1 => ds.length ≤ sizeLine ∧ wDcL wg wt wk wv (wipeE env vs) ds M1 [] fun acc M2 => Q (.d (.dct (acc.map (·.1)) (acc.map (·.2)))) M2
theorem zip_parts {α β : Type} : ∀ xs : List (α × β), (xs.map (·.1)).zip (xs.map (·.2)) = xs
  | [] => rfl
  | x :: xs => by rw [List.map_cons, List.map_cons, List.zip_cons_cons, zip_parts xs]
theorem fst_zip {α β : Type} : ∀ {xs : List α} {ys : List β}, xs.length = ys.length → (xs.zip ys).map (·.1) = xs
  | [], _, _ => rfl
  | x :: xs, [], h => by cases h
  | x :: xs, y :: ys, h => by rw [List.zip_cons_cons, List.map_cons, fst_zip (by simpa using h)]
theorem snd_zip {α β : Type} : ∀ {xs : List α} {ys : List β}, xs.length = ys.length → (xs.zip ys).map (·.2) = ys
  | [], [], _ => rfl
  | x :: xs, [], h => by cases h
  | x :: xs, y :: ys, h => by rw [List.zip_cons_cons, List.map_cons, snd_zip (by simpa using h)]
section
variable {X : Cx} {K : PySem.W.Frag}
theorem dn_dcD {ti : TI} {g : TG} {tt : TT} {tk tv : TE} {wi : WI} {wg : WG} {wt : WT} {wk wv : WE} {vs ss : List Nat} (hi : DnI J K ti wi) (hg : DnG J K ss g wg) (ht : DnT J K tt wt) (hk : Dn J K tk wk) (hv : Dn J K tv wv) (hs : ∀ i ∈ ss, i ∈ vs) : Dn J K (tDc ti g tt tk tv vs) (wDcD wi wg wt wk wv vs) := by
  intro env M Q hw S A σ H R st en k
  refine hi env M _ hw S A σ H _ st en fun J H1 ds M1 A1 p1 s1 wlk ⟨hz, hw1⟩ => ?_
  intro D0 hD
  have fr := s1.fresh hD
  have nS : D0 ∉ S := fun z => fr (List.mem_append_left _ z)
  have nA : D0 ∉ A1 := fun z => fr (List.mem_append_right _ z)
  have sub : ∀ (A : List Addr) (H : Hp), Same (view (D0 :: S) A H) (view S A H) := fun A H => off_less fun a ha => List.mem_cons_of_mem _ ha
  have v0 : Same (view S A1 H1) (view (D0 :: S) A1 (upd H1 D0 (.dK []))) := fun b x e => by
    obtain ⟨n, q⟩ := off_some e
    have hb : b ≠ D0 := ne_of_none q hD
    refine off_of (fun z => ?_) (by rw [upd_ne hb]; exact q)
    rcases List.mem_cons.mp z with z | z
    · exact hb z
    · exact n z
  have st0 : Sto K (D0 :: S) A1 (upd H1 D0 (.dK [])) M1 := by
    refine ⟨s1.len, s1.nd, fun a ha z => ?_, fun a ha => ?_, fun i mo a h1 h2 => ?_⟩
    · rcases List.mem_cons.mp z with z | z
      · exact nA (z ▸ ha)
      · exact s1.dj a ha z
    · rcases List.mem_cons.mp ha with rfl | ha
      · exact ⟨_, upd_same⟩
      · obtain ⟨o, e⟩ := s1.trk a ha
        exact ⟨o, by rw [upd_ne (ne_of_none e hD)]; exact e⟩
    · refine (s1.mem i mo a h1 h2).to (upd_ne (fun (z : a = D0) => nA (by rw [← z]; exact List.mem_of_getElem? h2))) v0
  refine ⟨fun i m H2 => m = ds.length - i ∧ i ≤ ds.length ∧ ∃ M2 A2 acc xs, A1 <+: A2 ∧ Same (view S A1 H1) (view (D0 :: S) A2 H2) ∧ (∀ a ∈ S, H2 a = H1 a) ∧ Sto K (D0 :: S) A2 H2 M2 ∧ H2 D0 = some (.dK xs) ∧ RepD K (view (D0 :: S) A2 H2) acc xs ∧ acc.length ≤ i ∧
      wDcL wg wt wk wv (wipeE env vs) (ds.drop i) M2 acc (fun acc M2 => Q (.d (.dct (acc.map (·.1)) (acc.map (·.2)))) M2), ⟨ds.length, by simp, Nat.zero_le _, M1, A1, [], [], List.prefix_refl _, v0, fun a ha => upd_ne (fun (z : a = D0) => nS (by rw [← z]; exact ha)), st0, upd_same, ⟨rfl, rfl⟩, by simp, by simpa using hw1⟩, ?_⟩
  rintro i m H2 ⟨rfl, hil, M2, A2, acc, xs, pre, vw, hid, st2, hD2, rp, hal, hw2⟩
  obtain ⟨wk1, wk2⟩ := wlk (D0 :: S) A2 H2 vw st2.trk'
  by_cases hlt : i < ds.length
  · have hd : ds[i]? = some ds[i] := List.getElem?_eq_getElem hlt
    obtain ⟨go, yl⟩ := wk1 i _ hd
    refine .inr ⟨go, fun H' => i + 1 ≤ ds.length ∧ ∃ M2 A2 acc xs, A1 <+: A2 ∧ Same (view S A1 H1) (view (D0 :: S) A2 H') ∧ (∀ a ∈ S, H' a = H1 a) ∧ Sto K (D0 :: S) A2 H' M2 ∧ H' D0 = some (.dK xs) ∧ RepD K (view (D0 :: S) A2 H') acc xs ∧ acc.length ≤ i + 1 ∧
      wDcL wg wt wk wv (wipeE env vs) (ds.drop (i + 1)) M2 acc (fun acc M2 => Q (.d (.dct (acc.map (·.1)) (acc.map (·.2)))) M2), fun H' q => ⟨ds.length - (i + 1), by omega, rfl, q⟩, fun x H3 yd => ?_⟩
    obtain ⟨sm, rx⟩ := yl x H3 yd
    have st3 := st2.grow sm
    have p3 := st2.post sm
    rw [List.drop_eq_getElem_cons hlt] at hw2
    obtain ⟨N, hN, hw2⟩ := hw2
    have en3 : EnvOk _ K (D0 :: S) A2 H3 (wipeE env vs) (wipe σ vs) := ((en.mono p1).wipe vs).to pre (vw.trans p3.view) (fun a ha => List.mem_cons_of_mem _ ha) (fun a ha => (p3.hid a (List.mem_cons_of_mem _ ha)).trans (hid a ha))
    refine hg _ _ _ _ hw2 (D0 :: S) A2 (wipe σ vs) H3 x _ st3 en3 rx fun σ4 H4 env4 M4 A4 p4 s4 e4 wp hw4 => ?_
    have wp' : wipe σ4 vs = wipe σ vs := by
      rw [wp vs hs]
      have : ∀ ws us : List Nat, (∀ i ∈ us, i ∈ ws) → wipe (wipe σ us) ws = wipe σ ws := by
        intro ws us
        induction us with
        | nil => intro _; rfl
        | cons u us ih =>
          intro hu
          show wipe ((wipe σ us).set u none) ws = _
          rw [wipe_set (hu u List.mem_cons_self)]
          exact ih fun i hi => hu i (List.mem_cons_of_mem _ hi)
      exact this vs vs fun i hi => hi
    refine ⟨wp', ?_⟩
    refine ht _ _ _ hw4 (D0 :: S) A4 σ4 H4 _ s4 e4 fun b H5 M5 A5 p5 s5 hw5 => ?_
    have pp := (p3.trans p4).trans p5
    have hid5 : ∀ a ∈ S, H5 a = H1 a := fun a ha => (pp.hid a (List.mem_cons_of_mem _ ha)).trans (hid a ha)
    have hD5 : H5 D0 = some (.dK xs) := (pp.hid D0 List.mem_cons_self).trans hD2
    have mp : ∀ {h h' : Hp} {kvs : List (Key × D)} {us : List (Key × V)}, Same h h' → RepD K h kvs us → RepD K h' kvs us := fun e r => ⟨r.1, Reps.mono e _ _ r.2⟩
    cases b with
    | false =>
      exact ⟨hlt, M5, A5, acc, xs, pre.trans pp.pre, vw.trans pp.view, hid5, s5, hD5, mp pp.view rp, by omega, hN _ _ hw5⟩
    | true =>
      refine hk _ _ _ hw5 (D0 :: S) A5 σ4 H5 _ s5 (e4.mono p5) fun y H6 ry M6 A6 p6 s6 q6 ⟨q, eq, key, ek, hw6⟩ => ?_
      subst eq
      have eky := keyD_rep ek q6
      refine hv _ _ _ hw6 (D0 :: S) A6 σ4 H6 _ s6 ((e4.mono p5).mono p6) fun z H7 rz M7 A7 p7 s7 q7 ⟨x, ez, hw7⟩ => ?_
      subst ez
      have pp6 := (pp.trans p6).trans p7
      have hD7 : H7 D0 = some (.dK xs) := (p7.hid D0 List.mem_cons_self).trans ((p6.hid D0 List.mem_cons_self).trans hD5)
      have rp7 : RepD K (view (D0 :: S) A7 H7) acc xs := mp pp6.view rp
      refine ⟨xs, key, eky, hD7, by rw [rp7.len]; omega, hlt, ?_⟩
      have vset : view (D0 :: S) A7 (upd H7 D0 (.dK (putK xs key z))) = view (D0 :: S) A7 H7 := by
        funext b
        unfold view off
        by_cases e : b ∈ D0 :: S ++ A7
        · rw [if_pos e, if_pos e]
        · rw [if_neg e, if_neg e, upd_ne (fun z => e (by rw [z]; exact List.mem_cons_self))]
      have nA7 : D0 ∉ A7 := fun z => s7.dj D0 z List.mem_cons_self
      refine ⟨M7, A7, dPutK acc key x, putK xs key z, pre.trans pp6.pre, by rw [vset]; exact vw.trans pp6.view, fun a ha => ?_, ?_, upd_same, ?_, Nat.le_trans (dPutK_len _ _ _) (by omega), hN _ _ hw7⟩
      · rw [upd_ne (fun (z : a = D0) => nS (by rw [← z]; exact ha))]
        exact (p7.hid a (List.mem_cons_of_mem _ ha)).trans ((p6.hid a (List.mem_cons_of_mem _ ha)).trans (hid5 a ha))
      · refine ⟨s7.len, s7.nd, s7.dj, fun a ha => ?_, fun j mo a h1 h2 => ?_⟩
        · by_cases e : a = D0
          · subst e; exact ⟨_, upd_same⟩
          · rw [upd_ne e]; exact s7.trk a ha
        · exact (s7.mem j mo a h1 h2).to (upd_ne (fun (z : a = D0) => nA7 (by rw [← z]; exact List.mem_of_getElem? h2))) (by rw [vset]; exact Same.refl _)
      · rw [vset]
        exact RepD.put key q7 rp7
  · have e : i = ds.length := by omega
    subst e
    refine .inl ⟨wk2 _ (Nat.le_refl _), ?_⟩
    rw [List.drop_length] at hw2
    have hw3 : Q (.d (.dct (acc.map (·.1)) (acc.map (·.2)))) M2 := hw2
    have nA2 : D0 ∉ A2 := fun z => st2.dj D0 z List.mem_cons_self
    have sb := sub A2 H2
    have ez : (acc.map (·.1)).zip (xs.map (·.2)) = xs := by rw [← rp.1]; exact zip_parts xs
    refine k (.ref D0) H2 (.d (.dct (acc.map (·.1)) (acc.map (·.2)))) M2 A2 (p1.trans ⟨pre, vw.trans sb, hid⟩) ⟨st2.len, st2.nd, fun a ha z => st2.dj a ha (List.mem_cons_of_mem _ z), fun a ha => st2.trk a (List.mem_cons_of_mem _ ha), fun j mo a h1 h2 => (st2.mem j mo a h1 h2).to rfl sb⟩ ?_ hw3
    exact ⟨D0, xs.map (·.2), rfl, by rw [ez]; exact off_of (fun z => (List.mem_append.mp z).elim nS nA2) hD2, by rw [← rp.1, List.length_map, List.length_map], Reps.mono sb _ _ rp.2⟩
/-- what is in the heap of a dict that is data -/
theorem rep_dct {h : Hp} {ks : List Key} {ds : List D} {v : V} (r : Rep K h (.dct ks ds) v) : ∃ a us, v = .ref a ∧ h a = some (.dK us) ∧ RepD K h (ks.zip ds) us := by
  obtain ⟨a, vs, rfl, e1, e2, e3⟩ := r
  have l := e3.len
  exact ⟨a, _, rfl, e1, by rw [fst_zip e2, fst_zip (by omega)], by rw [snd_zip e2, snd_zip (by omega)]; exact e3⟩
end
section
variable {J : Bs} {X : Cx} {n0 : Nat} {kx vx tg iter : Expr} {wk wv : WE} {wt : WT} {wi : WI} {wg : WG} {ss : List Nat} {pos : Pos} {ifs : List Expr} {scope : Scope} {own : List (Str × Nat)}
theorem qe_dcD (hc : X.calm = true) (hN : X.N.Nodup) (hi : QI J X tg iter wi) (ok : BlkOk X.N X.env.scope scope own) (hss : ∀ i ∈ ss, i ∈ own.map (·.2))
    (hg : ∀ (s : Shared) (H : Hp) (C : Addr) (cl : List (Str × Addr)) (fp : List Addr), QG J (X.blk s H scope (compEnvC scope cl C X.env) fp) ss tg wg)
    (ht : ∀ (s : Shared) (H : Hp) (C : Addr) (cl : List (Str × Addr)) (fp : List Addr), QTs J (X.blk s H scope (compEnvC scope cl C X.env) fp) ifs wt)
    (hk : ∀ (s : Shared) (H : Hp) (C : Addr) (cl : List (Str × Addr)) (fp : List Addr), QE J (X.blk s H scope (compEnvC scope cl C X.env) fp) kx wk)
    (hv : ∀ (s : Shared) (H : Hp) (C : Addr) (cl : List (Str × Addr)) (fp : List Addr), QE J (X.blk s H scope (compEnvC scope cl C X.env) fp) vx wv) (hs : ∀ x, foldedSetIterable iter X.env x = pure x := by intro _; rfl) :
    QE J X (.DictComp kx vx [⟨tg, iter, ifs, 0⟩] scope pos) (wDcD wi wg wt wk wv (own.map (·.2))) := by
  obtain ⟨ti, pi, di⟩ := hi
  exact ⟨_, pe_dc hc hN pi ok (g := canG J X.K ss wg) (tt := canT J X.K wt) (tk := canE J X.K wk) (tv := canE J X.K wv) (fun s H C cl fp => (hg s H C cl fp).pg) (fun s H C cl fp => (ht s H C cl fp).pts) (fun s H C cl fp => (hk s H C cl fp).pe) (fun s H C cl fp => (hv s H C cl fp).pe) hs, dn_dcD di dng_can dnt_can dn_can dn_can hss⟩
theorem qs_setDcD {i : Nat} {y : Str} {py spos : Pos} (hc : X.calm = true) (hN : X.N.Nodup) (hy : X.N[i]? = some y) (hyl : X.env.scope.names.lookup y = some .local)
    (hsw : swapsWith (.DictComp kx vx [⟨tg, iter, ifs, 0⟩] scope pos) (some (.Name y py)) spos.line X.env = pure true) (hi : QI J X tg iter wi) (ok : BlkOk X.N X.env.scope scope own) (hss : ∀ i ∈ ss, i ∈ own.map (·.2))
    (hg : ∀ (s : Shared) (H : Hp) (C : Addr) (cl : List (Str × Addr)) (fp : List Addr), QG J (X.blk s H scope (compEnvC scope cl C X.env) fp) ss tg wg)
    (ht : ∀ (s : Shared) (H : Hp) (C : Addr) (cl : List (Str × Addr)) (fp : List Addr), QTs J (X.blk s H scope (compEnvC scope cl C X.env) fp) ifs wt)
    (hk : ∀ (s : Shared) (H : Hp) (C : Addr) (cl : List (Str × Addr)) (fp : List Addr), QE J (X.blk s H scope (compEnvC scope cl C X.env) fp) kx wk)
    (hv : ∀ (s : Shared) (H : Hp) (C : Addr) (cl : List (Str × Addr)) (fp : List Addr), QE J (X.blk s H scope (compEnvC scope cl C X.env) fp) vx wv) (hs : ∀ x, foldedSetIterable iter X.env x = pure x := by intro _; rfl) :
    QS J X n0 (.Assign [.Name y py] (.DictComp kx vx [⟨tg, iter, ifs, 0⟩] scope pos) spos) (sSet i (wDcD wi wg wt wk wv (own.map (·.2)))) := by
  obtain ⟨ti, pi, di⟩ := hi
  exact ⟨_, ps_setDc hc hN hy hyl hsw pi ok (g := canG J X.K ss wg) (tt := canT J X.K wt) (tk := canE J X.K wk) (tv := canE J X.K wv) (fun s H C cl fp => (hg s H C cl fp).pg) (fun s H C cl fp => (ht s H C cl fp).pts) (fun s H C cl fp => (hk s H C cl fp).pe) (fun s H C cl fp => (hv s H C cl fp).pe) hs, dns_set (dn_dcD di dng_can dnt_can dn_can dn_can hss)⟩
end
/-- d[k] of data -/
def wDGetD (wd wk : WE) : WE := fun env M Q => wd env M fun x M1 => wk env M1 fun y M2 => ∃ q, y = .d q ∧ ∃ key, keyD q = some key ∧ ∃ ks ds, x = .d (.dct ks ds) ∧ ∃ d, dGetK (ks.zip ds) key = some d ∧ Q (.d d) M2
def wDInD (neg : Bool) (wk wd : WE) : WE := fun env M Q => wk env M fun y M1 => wd env M1 fun x M2 => ∃ q, y = .d q ∧ ∃ key, keyD q = some key ∧ ∃ ks ds, x = .d (.dct ks ds) ∧ Q (.d (.bl (neg ^^ (dGetK (ks.zip ds) key).isSome))) M2
section
variable {J : Bs} {X : Cx} {pos : Pos} {o i e : Expr} {wk wd wv : WE}
theorem qe_dgetD (hu : X.A.units + 64 < cLine) (ho : QE J X o wd) (hi : QE J X i wk) (hs : NoSl i := by intro _ _; rfl) : QE J X (.Subscript o i pos) (wDGetD wd wk) := by
  obtain ⟨tk, pk, dk⟩ := hi
  obtain ⟨td, pd, dd⟩ := ho
  refine ⟨_, pe_dget (by omega) pd pk hs, fun env M Q hw S A σ H R st en k => ?_⟩
  refine dd env M _ hw S A σ H _ st en fun v1 H1 r1 M1 A1 p1 s1 q1 hw1 => ?_
  refine dk env M1 _ hw1 S A1 σ H1 _ s1 (en.mono p1) fun v2 H2 r2 M2 A2 p2 s2 q2 ⟨q, e1, key, e2, ks, ds, e3, d, e6, hq⟩ => ?_
  subst e1 e3
  obtain ⟨a, us, rfl, g1, g2⟩ := rep_dct (Rep.mono p2.view _ _ q1)
  rw [keyD_rep e2 q2]
  rcases g2.get key with ⟨e7, _⟩ | ⟨d', v, e7, e8, rv⟩
  · rw [e6] at e7; cases e7
  · rw [e6] at e7; cases e7
    exact ⟨a, v, rfl, e8 ▸ .k (off_some g1).2, k v H2 (.d d) M2 A2 (p1.trans p2) s2 rv hq⟩
theorem dn_dinD {tk td : TE} (dk : Dn J X.K tk wk) (dd : Dn J X.K td wd) : Dn J X.K (tDIn tk td) (wDInD false wk wd) := by
  intro env M Q hw S A σ H R st en k
  refine dk env M _ hw S A σ H _ st en fun v1 H1 r1 M1 A1 p1 s1 q1 hw1 => ?_
  refine dd env M1 _ hw1 S A1 σ H1 _ s1 (en.mono p1) fun v2 H2 r2 M2 A2 p2 s2 q2 ⟨q, e1, key, e2, ks, ds, e3, hq⟩ => ?_
  subst e1 e3
  obtain ⟨a, us, rfl, g1, g2⟩ := rep_dct q2
  rw [keyD_rep e2 q1]
  refine ⟨a, _, rfl, .k (off_some g1).2, ?_⟩
  refine k _ H2 _ M2 A2 (p1.trans p2) s2 ?_ hq
  rcases g2.get key with ⟨e6, e7⟩ | ⟨_, _, e6, e7, _⟩ <;> (rw [e6, e7]; rfl)
theorem qe_dinD (hu : X.A.units + 64 < cLine) (hi : QE J X i wk) (ho : QE J X o wd) (h1 : behindInMarks .In o = false := by first | exact nobehind _ (by decide) (by decide) | rfl) : QE J X (.Compare i [.In] [o] pos) (wDInD false wk wd) := by
  obtain ⟨tk, pk, dk⟩ := hi
  obtain ⟨td, pd, dd⟩ := ho
  exact ⟨_, pe_cmp (pc_din (by omega) pk pd) h1, dn_dinD dk dd⟩
variable {z : Expr} {wz : WE}
/-- d.get(k, x) -/
def wDGet2D (wd wk wz : WE) : WE := fun env M Q => wd env M fun x M1 => ∃ ks ds, x = .d (.dct ks ds) ∧ wk env M1 fun y M2 => wz env M2 fun z M3 => ∃ q, y = .d q ∧ ∃ key, keyD q = some key ∧ ∃ d, z = .d d ∧ Q (.d ((dGetK (ks.zip ds) key).getD d)) M3
theorem qe_dget2D {o : Expr} {apos : Pos} (hu : X.A.units + 64 < cLine) (ho : QE J X o wd) (hi : QE J X i wk) (hz : QE J X z wz) (hbase : attributeBase o "get" X.env (eval o X.env) = eval o X.env := by rfl)
    (hfew : ((backTo pos (starEach [i, z] X.env)).all (fun x => !x.1) && (backToKw pos (keywordEach [] X.env)).all (fun x => x.1.isSome)
      && decide (([i, z] : List Expr).length + ([] : List Keyword).length + (if ([] : List Keyword).isEmpty then 0 else 1) < 30)) = true := by rfl)
    (hline : (apos.endLine == pos.line) = true := by rfl) (htr : backTo pos (starEach [i, z] X.env) = [(false, eval i X.env), (false, eval z X.env)] := by rfl) :
    QE J X (.Call (.Attribute o "get" apos) [i, z] [] pos) (wDGet2D wd wk wz) := by
  obtain ⟨tk, pk, dk⟩ := hi
  obtain ⟨td, pd, dd⟩ := ho
  obtain ⟨tz, pz, dz⟩ := hz
  refine ⟨_, pe_dget2 (by omega) pd pk pz ⟨hbase, hfew, hline, htr⟩, fun env M Q hw S A σ H R st en k => ?_⟩
  refine dd env M _ hw S A σ H _ st en fun v1 H1 r1 M1 A1 p1 s1 q1 ⟨ks, ds, e1, hw1⟩ => ?_
  subst e1
  obtain ⟨a, us, rfl, g1, g2⟩ := rep_dct q1
  refine ⟨a, rfl, .inl ⟨us, .inl (off_some g1).2⟩, ?_⟩
  refine dk env M1 _ hw1 S A1 σ H1 _ s1 (en.mono p1) fun v2 H2 r2 M2 A2 p2 s2 q2 hw2 => ?_
  refine dz env M2 _ hw2 S A2 σ H2 _ s2 ((en.mono p1).mono p2) fun v3 H3 r3 M3 A3 p3 s3 q3 ⟨q, e3, key, e4, d, e7, hq⟩ => ?_
  subst e3 e7
  have pp := p2.trans p3
  have g3 : view S A3 H3 a = some (.dK us) := pp.view _ _ g1
  have g4 : RepD _ (view S A3 H3) (ks.zip ds) us := ⟨g2.1, Reps.mono pp.view _ _ g2.2⟩
  refine ⟨valV us key, .inl ⟨us, key, .inl (off_some g3).2, keyD_rep e4 q2, rfl⟩, ?_⟩
  rcases g4.get key with ⟨e7, e8⟩ | ⟨d', v, e7, e8, rv⟩
  · rw [e7] at hq
    rw [e8]
    exact k v3 H3 (.d d) M3 A3 (p1.trans pp) s3 q3 hq
  · rw [e7] at hq
    rw [e8]
    exact k v H3 (.d d') M3 A3 (p1.trans pp) s3 rv hq
end
theorem rv1 : type_of% @wDcD.eq_1 := @wDcD.eq_1
theorem rv2 : type_of% @wDGetD.eq_1 := @wDGetD.eq_1
theorem rv4 : type_of% @wDGet2D.eq_1 := @wDGet2D.eq_1
theorem rv3 : type_of% @wDInD.eq_1 := @wDInD.eq_1
end Dw
set_option Elab.async false
set_option linter.all false
set_option maxRecDepth 100000
set_option maxHeartbeats 4000000
/-! DwW: sizes of plain data, more of comprehensions, builtins over mapped rows. -/
namespace Dw
open PySem PySem.Spec PyProof.Rows L2
mutual
/-- nested tuples of None, truth values, numbers, texts; how many parts -/
def psz : D → Nat
  | .tup ds => 1 + pszs ds
  | _ => 1
def pszs : List D → Nat
  | [] => 0
  | d :: ds => psz d + pszs ds
end
mutual
def plain : D → Bool
  | .non => true
  | .bl _ => true
  | .int _ => true
  | .str _ => true
  | .tup ds => plains ds
  | _ => false
def plains : List D → Bool
  | [] => true
  | d :: ds => plain d && plains ds
end
theorem psz_pos (d : D) : 1 ≤ psz d := by cases d <;> simp [psz]
theorem pszs_app : ∀ a b : List D, pszs (a ++ b) = pszs a + pszs b
  | [], b => by simp [pszs]
  | d :: a, b => by rw [List.cons_append, pszs, pszs, pszs_app a b]; omega
theorem pszs_len : ∀ a : List D, a.length ≤ pszs a
  | [] => by simp [pszs]
  | d :: a => by have := psz_pos d; have := pszs_len a; rw [pszs, List.length_cons]; omega
theorem plains_all : ∀ {a : List D}, plains a = true ↔ ∀ d ∈ a, plain d = true
  | [] => by simp [plains]
  | d :: a => by rw [plains, Bool.and_eq_true, plains_all (a := a)]; simp
theorem plains_app {a b : List D} : plains (a ++ b) = (plains a && plains b) := by
  rw [Bool.eq_iff_iff, Bool.and_eq_true, plains_all, plains_all, plains_all]; simp only [List.mem_append]
  exact ⟨fun h => ⟨fun d hd => h d (.inl hd), fun d hd => h d (.inr hd)⟩, fun ⟨h1, h2⟩ d hd => hd.elim (h1 d) (h2 d)⟩
theorem plains_ints : ∀ ns : List Int, plains (ns.map D.int) = true
  | [] => rfl
  | n :: ns => by rw [List.map_cons, plains, plains_ints ns]; rfl
theorem pszs_ints : ∀ ns : List Int, pszs (ns.map D.int) = ns.length
  | [] => rfl
  | n :: ns => by rw [List.map_cons, pszs, pszs_ints ns, List.length_cons]; simp [psz]; omega
theorem plains_map {α : Type} {f : α → D} {l : List α} (h : ∀ x ∈ l, plain (f x) = true) : plains (l.map f) = true :=
  plains_all.mpr fun d hd => by obtain ⟨x, hx, rfl⟩ := List.mem_map.mp hd; exact h x hx
theorem pszs_map_le {α : Type} {f : α → D} {l : List α} {k : Nat} (h : ∀ x ∈ l, psz (f x) ≤ k) : pszs (l.map f) ≤ l.length * k := by
  induction l with
  | nil => simp [pszs]
  | cons x l ih =>
    rw [List.map_cons, pszs, List.length_cons, Nat.succ_mul]
    have := h x List.mem_cons_self
    have := ih fun y hy => h y (List.mem_cons_of_mem _ hy)
    omega
/-- rows of rows: with the size of each -/
theorem pszs_map_eq {α : Type} {f : α → D} {l : List α} {k : Nat} (h : ∀ x, psz (f x) = k) : pszs (l.map f) = l.length * k := by
  induction l with
  | nil => simp [pszs]
  | cons x l ih => rw [List.map_cons, pszs, List.length_cons, Nat.succ_mul, h x, ih]; omega
/-! ### comprehensions: the last step, with the test and the value found by unification -/
theorem lc_fin {c : Prop} [Decidable c] {A B : Prop} (h1 : decide c = true → A) (h2 : decide c = false → B) : if c then A else B := by
  by_cases h : c
  · rw [if_pos h]; exact h1 (decide_eq_true h)
  · rw [if_neg h]; exact h2 (decide_eq_false h)
theorem lc_fin' {b : Bool} {A B : Prop} (h1 : b = true → A) (h2 : b = false → B) : if b = true then A else B := by
  cases b
  · exact h2 rfl
  · exact h1 rfl
theorem lc_fin_t {A : Prop} {b : Bool} (h1 : b = true → A) (hb : b = true) : A := h1 hb
theorem lc_rng {wg : WG} {we : WE} {env : Env'} {Q : List D → Mem → Prop} (f : Nat → D) (n : Nat) {M : Mem}
    (hs : ∀ x, x < n → ∀ G : D → Mem → Prop, G (f x) M → wg (.d (.int x)) env M fun env1 M1 => we env1 M1 fun y M3 => ∃ z, y = .d z ∧ G z M3)
    (hd : Q ((List.range n).map f) M) : wLcL wg wYes we env (rngD 0 n) M [] Q := by
  have e : rngD 0 n = (List.range n).map fun (i : Nat) => D.int i := by
    refine List.ext_getElem? fun i => ?_
    rw [List.getElem?_map]
    by_cases h : i < n
    · rw [List.getElem?_range h]
      cases hg : (rngD 0 n)[i]? with
      | none => rw [List.getElem?_eq_none_iff, rngD_len] at hg; omega
      | some d => obtain ⟨_, rfl⟩ := rngD_get hg; simp
    · rw [List.getElem?_eq_none (by rw [rngD_len]; omega), List.getElem?_eq_none (by simp; omega)]; rfl
  rw [e]
  exact lc_map' (fun (i : Nat) => D.int i) f _ (fun x hx G hG => hs x (List.mem_range.mp hx) G hG) hd
theorem rng_eq (n : Nat) : rngD 0 n = (List.range n).map fun (i : Nat) => D.int i := by
  refine List.ext_getElem? fun i => ?_
  rw [List.getElem?_map]
  by_cases h : i < n
  · rw [List.getElem?_range h]
    cases hg : (rngD 0 n)[i]? with
    | none => rw [List.getElem?_eq_none_iff, rngD_len] at hg; omega
    | some d => obtain ⟨_, rfl⟩ := rngD_get hg; simp
  · rw [List.getElem?_eq_none (by rw [rngD_len]; omega), List.getElem?_eq_none (by simp; omega)]; rfl
theorem fSum_map {α : Type} {f : α → Int} {l : List α} : fSum [.lst (l.map fun x => .int (f x))] (.int (l.map f).sum) := by
  have : l.map (fun x => D.int (f x)) = (l.map f).map .int := by rw [List.map_map]; rfl
  rw [this]; exact fSum_of
theorem map_get {α : Type} {f : α → D} {l : List α} {i : Nat} {d : D} (h : (l.map f)[i]? = some d) : ∃ x, l[i]? = some x ∧ d = f x := by
  rw [List.getElem?_map] at h
  cases hx : l[i]? with
  | none => rw [hx] at h; cases h
  | some x => rw [hx] at h; cases h; exact ⟨x, rfl, rfl⟩
theorem atI_lt {α : Type} [Inhabited α] {l : List α} {i : Nat} (h : i < l.length) : L2.atI l (i : Int) = some (l.getD i default) := by
  refine atI_nat ?_
  rw [List.getD_eq_getElem?_getD, List.getElem?_eq_getElem h]; rfl
theorem atI_some {α : Type} {l : List α} {i : Nat} {x : α} (h : l[i]? = some x) : L2.atI l (i : Int) = some x := atI_nat h
theorem take_get {α : Type} {l : List α} {i : Nat} {x : α} (h : l[i]? = some x) : l.take (i + 1) = l.take i ++ [x] := by rw [List.take_add_one, h]; rfl
theorem get_lt {α : Type} {l : List α} {i : Nat} {x : α} (h : l[i]? = some x) : i < l.length := (List.getElem?_eq_some_iff.mp h).1
/-- all numbers -/
def ints? : List D → Option (List Int)
  | [] => some []
  | .int i :: ds => (ints? ds).map (i :: ·)
  | _ :: _ => none
theorem ints_eq : ∀ {ds : List D} {ns : List Int}, ints? ds = some ns → ds = ns.map .int
  | [], ns, h => by cases h; rfl
  | d :: ds, ns, h => by
    cases d with
    | int i =>
      cases e : ints? ds with
      | none => simp [ints?, e] at h
      | some ms => simp [ints?, e] at h; subst h; rw [List.map_cons, ← ints_eq e]
    | _ => cases h
end Dw
set_option Elab.async false
set_option linter.all false
set_option maxRecDepth 100000
set_option maxHeartbeats 4000000
/-! DwA: sets of whole numbers and texts that are made and sorted at once (raw part). -/
namespace Dw
open PySem PySem.Spec PyProof.Rows L2
/-- the member of an entry -/
def keyM (e : Int × Value) : Key := match e.2 with
  | .int i _ => .inl i
  | .str x _ => .inr x
  | _ => .inl 0
def GoodM (P : Program) (w : World) (e : Int × Value) : Prop := ∃ k : Key, RelV (kV k) e.2 ∧ e.1 = (mixKind P w).hash k
theorem goodM_key {P : Program} {w : World} {e : Int × Value} {k : Key} (r : RelV (kV k) e.2) : keyM e = k := by
  obtain ⟨h, v⟩ := e
  cases k with
  | inl i => obtain ⟨t, q⟩ := (show ∃ t, v = Value.int i t from r); subst q; rfl
  | inr x => obtain ⟨t, q⟩ := (show ∃ t, v = Value.str x t from r); subst q; rfl
theorem GoodM.is {P : Program} {w : World} {e : Int × Value} (g : GoodM P w e) (k : Key) : (mixKind P w).is k e.2 = true ↔ keyM e = k := by
  obtain ⟨j, r, _⟩ := g
  have e1 : keyM e = j := goodM_key (P := P) (w := w) r
  refine ⟨fun z => ?_, fun z => ?_⟩
  · rw [e1]; exact (mixKind P w).inj e.2 j k (kV_is r) z
  · rw [← z, e1]; exact kV_is r
theorem GoodM.rel {P : Program} {w : World} {e : Int × Value} (g : GoodM P w e) : RelV (kV (keyM e)) e.2 := by
  obtain ⟨j, r, _⟩ := g
  rw [goodM_key (P := P) (w := w) r]; exact r
theorem GoodM.all {P : Program} {w : World} {es : List (Int × Value)} (g : ∀ e ∈ es, GoodM P w e) : ElemsOf (mixKind P w) es := fun e he => by
  obtain ⟨j, r, hh⟩ := g e he
  exact ⟨⟨j, kV_is r, hh⟩, key_scan r⟩
/-- the set at a has just the members ks -/
structure SetM (P : Program) (w : World) (h : Heap) (a : Addr) (ks : List Key) : Prop where
  ex : ∃ o es ep t, h.get? a = some o ∧ o.ExactSet ∧ o.data = .set es ep t ∧ (∀ e ∈ es.toList, GoodM P w e) ∧ (es.toList.map keyM).Perm ks ∧ ks.Nodup ∧ es.size < scanBound ∧ t.fits es.size = true ∧
    Ris t.place.toList ∧ (w.params.followText "set-order" = true ∨ t.led = true)
/-- one member more -/
def addK (ks : List Key) (k : Key) : List Key := if (ks.any fun j => decide (j = k)) = true then ks else ks ++ [k]
theorem any_key {ks : List Key} {k : Key} : (ks.any fun j => decide (j = k)) = true ↔ k ∈ ks := by
  rw [List.any_eq_true]
  exact ⟨fun ⟨j, hj, e⟩ => of_decide_eq_true e ▸ hj, fun h => ⟨k, h, decide_eq_true rfl⟩⟩
theorem addK_in {ks : List Key} {k : Key} (h : k ∈ ks) : addK ks k = ks := by unfold addK; rw [if_pos (any_key.mpr h)]
theorem addK_out {ks : List Key} {k : Key} (h : k ∉ ks) : addK ks k = ks ++ [k] := by unfold addK; rw [if_neg (fun z => h (any_key.mp z))]
theorem mem_addK {ks : List Key} {k j : Key} : j ∈ addK ks k ↔ j ∈ ks ∨ j = k := by
  by_cases h : k ∈ ks
  · rw [addK_in h]; exact ⟨.inl, fun z => z.elim id fun e => e ▸ h⟩
  · rw [addK_out h, List.mem_append, List.mem_singleton]
theorem addK_len (ks : List Key) (k : Key) : (addK ks k).length ≤ ks.length + 1 := by
  by_cases h : k ∈ ks
  · rw [addK_in h]; omega
  · rw [addK_out h]; simp
section
variable {P : Program} {w : World} {A : Around} {E : Value → Shared → Prop} {s : Shared} {h h' : Heap} {a : Addr} {ks : List Key}
theorem SetM.at (R : SetM P w h a ks) (k : ∀ o, h.get? a = some o → h'.get? a = some o) : SetM P w h' a ks := by
  obtain ⟨⟨o, es, ep, t, ho, q⟩⟩ := R
  exact ⟨⟨o, es, ep, t, k o ho, q⟩⟩
theorem SetM.typeIs (R : SetM P w s.heap a ks) : s.TypeIs (.ref a) "set" := by
  obtain ⟨⟨o, es, ep, t, ho, hex, _⟩⟩ := R
  exact ⟨o, ho, hex.1⟩
theorem addM_tail {gv : Bool → Sem Unit} (hgv : ∀ (b : Bool) (s1 : Shared) (Q' : Unit → Shared → Prop), Q' () s1 → wpAny (model P w) A (gv b) Q' E s1)
    {o : Obj} {es es1 : Array (Int × Value)} {ep : Nat} {t t2 : SetTable} (ho : s.heap.get? a = some o) (hex : o.ExactSet) (hd : o.data = .set es ep t)
    (g1 : ∀ e ∈ es1.toList, GoodM P w e) (pk : (es1.toList.map keyM).Perm ks) (nd : ks.Nodup) (hb1 : es1.size < scanBound) (hf2 : t2.fits es1.size = true) (hr : Ris t2.place.toList)
    (hl : w.params.followText "set-order" = true ∨ t2.led = true) {was : Bool} {R : Option Bool → Shared → Prop} (hR : ∀ h2, Heap.SameBut a s.heap h2 → SetM P w h2 a ks → R (some true) { s with heap := h2 }) :
    wpAny (model P w) A (do
        storeSet a es1 t2
        if (!was && t2.tooFull) = true then do
            gv (relayAll t2 es1 (SetTable.grown es1.size)).2.2
            storeSet a (relayAll t2 es1 (SetTable.grown es1.size)).1 (relayAll t2 es1 (SetTable.grown es1.size)).2.1
            pure (some true)
          else pure (some true)) R E s := by
  have fb := fits_of_scanBound hb1
  refine wpAny_bind (wpAny_storeSet_of ho hd ?_ fb)
  have at1 := store_at (es' := es1) (t' := t2) ho hd
  have same1 := Heap.SameBut.update s.heap a (Obj.putSet es1 t2)
  split
  · obtain ⟨p1, p2, p3, p4⟩ := And.intro (relayAll_perm t2 es1 (SetTable.grown es1.size)) (And.intro (relayAll_fits t2 es1 (SetTable.grown es1.size)) (And.intro (relayAll_ris t2 es1 (SetTable.grown es1.size)) (relayAll_led t2 es1 (SetTable.grown es1.size))))
    generalize relayAll t2 es1 (SetTable.grown es1.size) = Y at p1 p2 p3 p4 ⊢
    obtain ⟨es2, t3, gave⟩ := Y
    dsimp only at p1 p2 p3 p4 ⊢
    have sz2 : es2.size = es1.size := by rw [← Array.length_toList, p1.length_eq, Array.length_toList]
    have hb2 : es2.size < scanBound := sz2 ▸ hb1
    refine wpAny_bind (hgv _ _ _ ?_)
    have fb2 := fits_of_scanBound hb2
    refine wpAny_bind (wpAny_storeSet_of at1 rfl ?_ fb2)
    have at2 := store_at (es' := es2) (t' := t3) at1 rfl
    exact wpAny_pure (hR _ (same1.trans (Heap.SameBut.update _ a _)) ⟨⟨_, es2, _, t3, at2, hex, rfl, fun e he => g1 e (p1.mem_iff.mp he), (p1.map keyM).trans pk, nd, hb2, p2, p3, hl.imp id fun z => by rw [p4]; exact z⟩⟩)
  · exact wpAny_pure (hR _ same1 ⟨⟨_, es1, _, t2, at1, hex, rfl, g1, pk, nd, hb1, hf2, hr, hl⟩⟩)
theorem addM_hashed {k : Key} {v : Value} (rv : RelV (kV k) v) {Q : Bool → Shared → Prop} (R : SetM P w s.heap a ks) (room : ks.length + 1 < scanBound)
    (hQ : ∀ h2 b, Heap.SameBut a s.heap h2 → SetM P w h2 a (addK ks k) → Q b { s with heap := h2 }) :
    wpAny (model P w) A (setAddHashed a v ((mixKind P w).hash k)) Q E s := by
  obtain ⟨⟨o, es, ep, t, ho, hex, hd, g, pk, nd, hb, hf, hr, hl⟩⟩ := R
  have kis : (mixKind P w).is k v = true := kV_is rv
  have sc : v.scannable = true := key_scan rv
  have els : ElemsOf (mixKind P w) es.toList := GoodM.all g
  have bv := (mixKind P w).byValue k v kis
  unfold setAddHashed setAddHashedIn
  refine wpAny_holding (wpAny_bind (wpAny_setState_of ho hd hf ?_))
  dsimp only
  rw [byScan_of sc hb els]
  simp only [if_true]
  unfold setAddByScan
  refine wpAny_bind (wpAny_bind (wpAny_rule (wpAny_bind (wpAny_setScan_of kis ho hd hf els ?_))))
  cases hfi : List.findIdx? (fun e => (mixKind P w).is k e.2) es.toList with
  | some j =>
    dsimp only
    obtain ⟨hj, pj, _⟩ := List.findIdx?_eq_some_iff_getElem.mp hfi
    have hm : k ∈ ks := by
      refine pk.mem_iff.mp (List.mem_map.mpr ⟨es.toList[j], List.getElem_mem hj, ?_⟩)
      exact (GoodM.is (g _ (List.getElem_mem hj)) k).mp pj
    refine wpAny_pure (wpAny_pure ?_)
    have q := hQ s.heap false (Heap.SameBut.refl a s.heap) (by
      rw [addK_in hm]
      exact ⟨⟨o, es, ep, t, ho, hex, hd, g, pk, nd, hb, hf, hr, hl⟩⟩)
    exact q
  | none =>
    dsimp only
    have hnk : k ∉ ks := fun z => by
      obtain ⟨e, he, q⟩ := List.mem_map.mp (pk.mem_iff.mpr z)
      have c := List.findIdx?_eq_none_iff.mp hfi e he
      rw [(GoodM.is (g e he) k).mpr q] at c
      cases c
    have gave : ∀ (b : Bool) {s1 : Shared} {Q' : Unit → Shared → Prop}, Q' () s1 → wpAny (model P w) A (match b with | true => rule "set.scan.the-table-gave-way" | false => pure ()) Q' E s1 :=
      fun b s1 Q' q => by cases b <;> first | exact wpAny_pure q | exact wpAny_rule q
    obtain ⟨n1, n2, n3, n4⟩ := And.intro (layNew_perm t es ((mixKind P w).hash k) v) (And.intro (layNew_fits t es ((mixKind P w).hash k) v) (And.intro (layNew_ris t es ((mixKind P w).hash k) v hr) (layNew_led t es ((mixKind P w).hash k) v)))
    generalize layNew t es ((mixKind P w).hash k) v = Y at n1 n2 n3 n4 ⊢
    obtain ⟨es1, t1, was, gv⟩ := Y
    dsimp only at n1 n2 n3 n4 ⊢
    rw [Array.toList_push] at n1
    have pc : es1.toList.Perm (((mixKind P w).hash k, v) :: es.toList) := n1.trans (List.perm_append_singleton _ _)
    have kk : keyM ((mixKind P w).hash k, v) = k := goodM_key (P := P) (w := w) rv
    have pk1 : (es1.toList.map keyM).Perm (ks ++ [k]) := by
      have q := pc.map keyM
      rw [List.map_cons, kk] at q
      exact q.trans ((pk.cons k).trans (List.perm_append_singleton k ks).symm)
    have g1 : ∀ e ∈ es1.toList, GoodM P w e := fun e he => by
      rcases List.mem_cons.mp (pc.mem_iff.mp he) with z | z
      · rw [z]; exact ⟨k, rv, rfl⟩
      · exact g e z
    have nd1 : (ks ++ [k]).Nodup := (List.perm_append_singleton k ks).nodup_iff.mpr (List.nodup_cons.mpr ⟨hnk, nd⟩)
    have sz1 : es1.size = ks.length + 1 := by
      have q := pk1.length_eq
      rw [List.length_map, Array.length_toList, List.length_append] at q
      exact q
    have hb1 : es1.size < scanBound := by rw [sz1]; exact room
    have led1 : w.params.followText "set-order" = true ∨ t1.led = true := hl.imp id fun z => by rw [n4]; exact z
    have fin : ∀ h2, Heap.SameBut a s.heap h2 → SetM P w h2 a (ks ++ [k]) → Q true { s with heap := h2 } := fun h2 sb r => hQ h2 true sb (by
      rw [addK_out hnk]; exact r)
    refine wpAny_bind (gave _ ?_)
    split
    · refine wpAny_bind ?_
      rw [hashByValue_scannable 8 sc]
      refine wpAny_pure (addM_tail ?_ ho hex hd g1 pk1 nd1 hb1 ?_ ?_ ?_ ?_)
      · intro b s1 Q' q; cases b <;> first | exact wpAny_pure q | exact wpAny_rule q
      · first | (split <;> first | exact n2 | exact SetTable.fits_plain_off n2) | exact n2
      · first | (split <;> exact n3) | exact n3
      · first | (split <;> exact led1) | exact led1
      · intro h2 sb r; dsimp only; exact wpAny_pure (fin h2 sb r)
    · refine wpAny_bind (wpAny_pure ?_)
      simp only [↓reduceIte]
      refine addM_tail ?_ ho hex hd g1 pk1 nd1 hb1 n2 n3 led1 ?_
      · intro b s1 Q' q; cases b <;> first | exact wpAny_pure q | exact wpAny_rule q
      · intro h2 sb r; dsimp only; exact wpAny_pure (fin h2 sb r)
/-- s.add(v), in the walk of a comprehension or of set(..) -/
theorem setAdd_M {k : Key} {v : Value} (rv : RelV (kV k) v) {Q : Bool → Shared → Prop} (R : SetM P w s.heap a ks) (room : ks.length + 1 < scanBound)
    (hQ : ∀ h2 b, Heap.SameBut a s.heap h2 → SetM P w h2 a (addK ks k) → Q b { s with heap := h2, toks := s.toks + 1 }) :
    wpAny (model P w) A (setAdd a v) Q E s := by
  unfold setAdd
  refine wpAny_holding (wpAny_bind ((mixKind P w).pyHash (kV_is rv) ?_))
  exact addM_hashed (s := { s with toks := s.toks + 1 }) rv R room fun h2 b sb r => hQ h2 b sb r
theorem call_add_M {k : Key} {v : Value} (rv : RelV (kV k) v) {Q : Value → Shared → Prop} (R : SetM P w s.heap a ks) (room : ks.length + 1 < scanBound)
    (hQ : ∀ h2, Heap.SameBut a s.heap h2 → SetM P w h2 a (addK ks k) → Q .none { s with heap := h2, toks := s.toks + 1 }) :
    wpAny (model P w) A (call (.builtin "set.add") [.ref a, v]) Q E s := by
  refine wpAny_call_entry F.slot_set_add R.typeIs F.entry_set_add ?_ (F.args_set_add_2 _ _)
  unfold Builtin.«set.add» Builtin.Frozenset.oneOther
  simp only [List.isEmpty_nil,bind_assoc]
  unfold Builtin.Frozenset.addrOf
  refine wpAny_bind (wpAny_pure ?_)
  try dsimp only
  refine wpAny_bind (wpAny_pure ?_)
  try dsimp only
  unfold setAdd
  refine wpAny_bind (wpAny_holding (wpAny_bind ((mixKind P w).pyHash (kV_is rv) (addM_hashed (s := { s with toks := s.toks + 1 }) rv R room fun h2 b sb r => ?_))))
  show wpAny _ _ (ret Value.none) _ _ _
  exact wpAny_pure ⟨_, rfl, hQ h2 sb r⟩
theorem setM_fresh {h : Heap} (P : Program) (w : World) : SetM P w (h.push { cls := .type "set", dict := none, data := .set #[] 0 (.fresh 0 0 (!w.params.followText "set-order")) }) h.objs.size [] :=
  ⟨⟨_, #[], 0, _, Heap.get?_push_size _ rfl, ⟨rfl, rfl, rfl⟩, rfl, (fun e he => by simp at he), .refl _, List.nodup_nil, (by decide), (by rfl), List.Pairwise.nil, by
    show _ ∨ (!w.params.followText "set-order") = true
    cases w.params.followText "set-order" <;> first | exact .inr rfl | exact .inl rfl⟩⟩
end
/-! ### as tracked things -/
def SetMO (P : Program) (w : World) (a : Addr) (ks : List Key) : HO := .ext fun h => SetM P w h a ks
theorem setMO_new {P : Program} {w : World} {H : Hp} {h : Heap} {a : Addr} {ks : List Key} (R : SetM P w h a ks) : ObjOk P w H h a (SetMO P w a ks) := by
  obtain ⟨⟨o, es, ep, t, ho, q⟩⟩ := id R
  exact ⟨R, ⟨o, ho⟩, fun h1 h2 p k => SetM.at p k⟩
section
variable {X : Cx}
theorem setMO_get {pins : List (Addr × Obj)} {σ : L2.St} {H : Hp} {s : Shared} {a : Addr} {ks : List Key} (I : Inv X pins σ H s) (ha : H a = some (SetMO X.prog X.w a ks)) : SetM X.prog X.w s.heap a ks := (I.hok a _ ha).1
theorem addMO_ok {pins : List (Addr × Obj)} {σ : L2.St} {H : Hp} {s : Shared} {E : Value → Shared → Prop} {B : Addr} {ks : List Key} {k : Key} {v : Value} {Q : Value → Shared → Prop} (I : Inv X pins σ H s) (hB : H B = some (SetMO X.prog X.w B ks)) (rv : RelV (kV k) v) (room : ks.length + 1 < scanBound)
    (h : ∀ s', Inv X pins σ (upd H B (SetMO X.prog X.w B (addK ks k))) s' → Q .none s') : wpAny (model X.prog X.w) X.A (call (.builtin "set.add") [.ref B, v]) Q E s := by
  refine call_add_M rv (setMO_get I hB) room fun h2 sb new => ?_
  have he : ∃ u, h2.get? B = some u := by
    obtain ⟨⟨o, _, _, _, ho, _⟩⟩ := id new
    exact ⟨o, ho⟩
  exact h _ (I.write (e := B) (t' := s.toks + 1) (by rw [hB]; trivial) (.inl rfl) (fun b u hb hu => (sb.2 b hb).trans hu) he (setMO_new new))
end

/-! ### sorted(a set) -/
def keyV : Value → Key
  | .int i _ => .inl i
  | .str x _ => .inr x
  | _ => .inl 0
def kP : Key → PyData
  | .inl i => .int i
  | .inr x => .str x
theorem keyM_V (e : Int × Value) : keyM e = keyV e.2 := by obtain ⟨h, v⟩ := e; cases v <;> rfl
theorem key_reads {h : Heap} {k : Key} {v : Value} (r : RelV (kV k) v) : ∃ as, Reads h v (kP k) as := by
  cases k with
  | inl i => obtain ⟨t, q⟩ := (show ∃ t, v = Value.int i t from r); subst q; exact ⟨[], .int i t⟩
  | inr x => obtain ⟨t, q⟩ := (show ∃ t, v = Value.str x t from r); subst q; exact ⟨[], .str x t⟩
theorem each_keyV : ∀ (out : List Value), (∀ v ∈ out, RelV (kV (keyV v)) v) → PySem.W.EachIs (fun (v : Value) (k : Key) => RelV (kV k) v) out (out.map keyV)
  | [], _ => .nil
  | v :: out, h => .cons (h v List.mem_cons_self) (each_keyV out fun u hu => h u (List.mem_cons_of_mem _ hu))
theorem each_keyR {h : Heap} : ∀ (out : List Value), (∀ v ∈ out, RelV (kV (keyV v)) v) → PySem.W.EachIs (fun (v : Value) (k : Key) => ∃ as, Reads h v (kP k) as) out (out.map keyV)
  | [], _ => .nil
  | v :: out, q => .cons (key_reads (q v List.mem_cons_self)) (each_keyR out fun u hu => q u (List.mem_cons_of_mem _ hu))
theorem vals_keys : ∀ {out : List Value} {ks : List Key}, PySem.W.EachIs (fun (v : Value) (k : Key) => RelV (kV k) v) out ks → Vals (ks.map kV) out
  | _, _, .nil => .nil
  | _, _, .cons a b => .cons a (vals_keys b)
section
variable {P : Program} {w : World} {A : Around} {E : Value → Shared → Prop} {s : Shared} {a : Addr} {ks : List Key}
open PySem.W PySem.Calls
/-- the keys are all numbers or all texts -/
def OneKind (ks : List Key) : Prop := (∃ is : List Int, ks = is.map .inl) ∨ ∃ ss : List Str, ks = ss.map .inr
theorem OneKind.perm {js ks : List Key} (p : js.Perm ks) (h : OneKind ks) : OneKind js := by
  have key : ∀ l : List Key, (∀ k ∈ l, ∃ i, k = Sum.inl i) → ∃ is : List Int, l = is.map .inl := fun l => by
    induction l with
    | nil => intro _; exact ⟨[], rfl⟩
    | cons k l ih =>
      intro q
      obtain ⟨i, rfl⟩ := q k List.mem_cons_self
      obtain ⟨is, rfl⟩ := ih fun j hj => q j (List.mem_cons_of_mem _ hj)
      exact ⟨i :: is, rfl⟩
  have key2 : ∀ l : List Key, (∀ k ∈ l, ∃ i, k = Sum.inr i) → ∃ is : List Str, l = is.map .inr := fun l => by
    induction l with
    | nil => intro _; exact ⟨[], rfl⟩
    | cons k l ih =>
      intro q
      obtain ⟨i, rfl⟩ := q k List.mem_cons_self
      obtain ⟨is, rfl⟩ := ih fun j hj => q j (List.mem_cons_of_mem _ hj)
      exact ⟨i :: is, rfl⟩
  rcases h with ⟨is, rfl⟩ | ⟨ss, rfl⟩
  · exact .inl (key js fun k hk => by obtain ⟨i, _, e⟩ := List.mem_map.mp (p.mem_iff.mp hk); exact ⟨i, e.symm⟩)
  · exact .inr (key2 js fun k hk => by obtain ⟨i, _, e⟩ := List.mem_map.mp (p.mem_iff.mp hk); exact ⟨i, e.symm⟩)
theorem OneKind.ok {ks : List Key} (h : OneKind ks) : SrtOk (ks.map kP) := by
  rcases h with ⟨is, rfl⟩ | ⟨ss, rfl⟩
  · refine ⟨fun d hd d' hd' => ?_, .inl (.inr fun d hd => ?_), fun d hd => ?_⟩
    · obtain ⟨m, hm, rfl⟩ := List.mem_map.mp hd
      obtain ⟨i, _, rfl⟩ := List.mem_map.mp hm
      obtain ⟨m', hm', rfl⟩ := List.mem_map.mp hd'
      obtain ⟨i', _, rfl⟩ := List.mem_map.mp hm'
      simp [kP, PySem.W.alike]
    · obtain ⟨m, hm, rfl⟩ := List.mem_map.mp hd
      obtain ⟨i, _, rfl⟩ := List.mem_map.mp hm
      exact ⟨by simp [kP], by simp [kP]⟩
    · obtain ⟨m, hm, rfl⟩ := List.mem_map.mp hd
      obtain ⟨i, _, rfl⟩ := List.mem_map.mp hm
      simp [kP, PyData.depth]
  · refine ⟨fun d hd d' hd' => ?_, .inl (.inr fun d hd => ?_), fun d hd => ?_⟩
    · obtain ⟨m, hm, rfl⟩ := List.mem_map.mp hd
      obtain ⟨i, _, rfl⟩ := List.mem_map.mp hm
      obtain ⟨m', hm', rfl⟩ := List.mem_map.mp hd'
      obtain ⟨i', _, rfl⟩ := List.mem_map.mp hm'
      simp [kP, PySem.W.alike]
    · obtain ⟨m, hm, rfl⟩ := List.mem_map.mp hd
      obtain ⟨i, _, rfl⟩ := List.mem_map.mp hm
      exact ⟨by simp [kP], by simp [kP]⟩
    · obtain ⟨m, hm, rfl⟩ := List.mem_map.mp hd
      obtain ⟨i, _, rfl⟩ := List.mem_map.mp hm
      simp [kP, PyData.depth]
theorem sorted_setM {Q : Value → Shared → Prop} (R : SetM P w s.heap a ks) (hk : OneKind ks) (hh : A.handled = none) (hu : A.units + 70 < cLine)
    (hQ : ∀ s' p (js : List Key) out c, (∀ b o, s.heap.get? b = some o → s'.heap.get? b = some o) → s'.gens = s.gens → s'.os = s.os → s.heap.objs.size ≤ p → js.Perm ks → Vals ((js.mergeSort (dataLe false kP)).map kV) out →
      s'.heap.get? p = some (seqObj "list" out.toArray c) → ks.length < scanBound → Q (.ref p) s') :
    wpAny (model P w) A (call (.builtin "sorted") [.ref a]) Q E s := by
  obtain ⟨⟨o, es, ep, t, ho, hex, hd, g, pk, nd, hb, hf, hr, hl⟩⟩ := R
  refine call_function_entry_kw kind_sorted plain_sorted entry_sorted (args_sorted1 _) ?_
  unfold Builtin.«sorted»
  refine wpAny_bind (m := checkCount "sorted" 1 1 _) (wpAny_pure ?_)
  refine wpAny_bind (collect_set (A := A.in1) hh ⟨o, ho, hex.1, hd⟩ hf hb hr hl fun s1 out k1 hz g1 o1 pm => ?_)
  have okV : ∀ v ∈ out, RelV (kV (keyV v)) v := fun v hv => by
    obtain ⟨e, he, q⟩ := List.mem_map.mp (pm.mem_iff.mp hv)
    have := GoodM.rel (g e he)
    rw [keyM_V, q] at this
    exact this
  have pj : (out.map keyV).Perm ks := by
    have q := pm.map keyV
    rw [List.map_map, show keyV ∘ (fun e : Int × Value => e.2) = keyM from funext fun e => (keyM_V e).symm] at q
    exact q.trans pk
  have oj : OneKind (out.map keyV) := hk.perm pj
  have okS := oj.ok
  have nl : ks.length < scanBound := by rw [← pk.length_eq, List.length_map, Array.length_toList]; exact hb
  have ol : out.length = ks.length := by rw [← pj.length_eq, List.length_map]
  have oz : out.length ≤ sizeLine := by have := fits_of_scanBound (n := out.length) (by rw [ol]; exact nl); rw [sizeLine_eq]; unfold scanBound at nl; omega
  refine wpAny_bind (wpAny_newList ?_ oz)
  have hoL : (s1.heap.push (seqObj "list" out.toArray 0)).get? s1.heap.objs.size = some (seqObj "list" out.toArray 0) := Heap.get?_push_size _ rfl
  have er : EachIs (fun v k => ∃ as, Reads (sortingHeap (s1.heap.push (seqObj "list" out.toArray 0)) s1.heap.objs.size out) v (kP k) as) out (out.map keyV) := each_keyR out okV
  have S := sortsAt_data (prog := P) (w := w) (A := A.in1.in1) (s := { s1 with heap := sortingHeap (s1.heap.push (seqObj "list" out.toArray 0)) s1.heap.objs.size out }) (each_map (R := fun v d => ∃ as, Reads (sortingHeap (s1.heap.push (seqObj "list" out.toArray 0)) s1.heap.objs.size out) v d as) kP er) okS.alike okS.kind (fun d hd' => by
    have := okS.few d hd'
    have u2 : A.in1.in1.units = A.units + 2 := rfl
    omega)
  refine wpAny_bind (wpAny_holding (wpAny_call_entry_kw slot_list_sort ⟨_, hoL, rfl⟩ entry_list_sort ?body (args_list_sort _)))
  case body =>
    show wpAny (model P w) A.in1.in1 (Builtin.«list.sort» ⟨[.ref s1.heap.objs.size], []⟩) _ _ _
    refine wpAny_mono (Q := fun f s' => f = .done (.ret .none) ∧ Q (.ref s1.heap.objs.size) s') (list_sort_vals (s := { s1 with heap := s1.heap.push (seqObj "list" out.toArray 0) }) hoL S oz ⟨rfl, ?_⟩) (fun f s' hf => ?_) fun _ _ e => e
    · have so := sortVals_data (R := fun (v : Value) (k : Key) => RelV (kV k) v) (enc := kP) false (each_keyV out okV) er okS.alike
      obtain ⟨c, hc⟩ := sortedHeap_at (vs := out) (out := (sortVals (dataKind (sortingHeap (s1.heap.push (seqObj "list" out.toArray 0)) s1.heap.objs.size out) ((out.map keyV).map kP)) false out out).toArray) hoL
      refine hQ _ s1.heap.objs.size (out.map keyV) _ c (fun b u e => ?_) g1 o1 hz pj (vals_keys so) hc nl
      have q := k1 b u e
      have lt := Heap.lt_size q
      show (sortedHeap (s1.heap.push (seqObj "list" out.toArray 0)) s1.heap.objs.size out _).get? b = some u
      rw [sortedHeap_old (Nat.ne_of_lt lt) (by rw [size_push']; exact Nat.lt_succ_of_lt lt)]
      exact Heap.get?_push_of_some _ q
    · obtain ⟨rfl, hq⟩ := hf
      exact ⟨_, rfl, wpAny_pure ⟨_, rfl, hq⟩⟩
end
/-- texts, by their signs -/
def strLt (x y : Str) : Prop := x.cps.toList < y.cps.toList
def rSortM (P : Program) (w : World) : List V → Hp → VK → Prop := fun vs H Q => ∃ (a : Addr) (ks : List Key), vs = [V.ref a] ∧ H a = some (SetMO P w a ks) ∧
  ((∃ is : List Int, ks = is.map .inl ∧ ∀ p (ns : List Int), H p = none → ns.Perm is → ns.Pairwise (· < ·) → Q (.ref p) (upd H p (.lst (ns.map V.int)))) ∨
   ∃ ss : List Str, ks = ss.map .inr ∧ ∀ p (ns : List Str), H p = none → ns.Perm ss → ns.Pairwise strLt → Q (.ref p) (upd H p (.lst (ns.map V.str))))
theorem perm_inl {js : List Key} {is : List Int} (p : js.Perm (is.map .inl)) : ∃ ns : List Int, js = ns.map .inl ∧ ns.Perm is := by
  rcases OneKind.perm p (.inl ⟨is, rfl⟩) with ⟨ns, rfl⟩ | ⟨ss, rfl⟩
  · refine ⟨ns, rfl, ?_⟩
    have := p.map (fun k : Key => match k with | .inl i => i | .inr _ => 0)
    simpa [List.map_map, Function.comp_def] using this
  · cases ss with
    | nil =>
      have := p.length_eq
      simp at this
      exact ⟨[], rfl, by rw [List.eq_nil_of_length_eq_zero this.symm]⟩
    | cons x ss =>
      have : (Sum.inr x : Key) ∈ is.map .inl := p.mem_iff.mp List.mem_cons_self
      simp at this
theorem perm_inr {js : List Key} {is : List Str} (p : js.Perm (is.map .inr)) : ∃ ns : List Str, js = ns.map .inr ∧ ns.Perm is := by
  rcases OneKind.perm p (.inr ⟨is, rfl⟩) with ⟨ss, rfl⟩ | ⟨ns, rfl⟩
  · cases ss with
    | nil =>
      have := p.length_eq
      simp at this
      exact ⟨[], rfl, by rw [List.eq_nil_of_length_eq_zero this.symm]⟩
    | cons x ss =>
      have : (Sum.inl x : Key) ∈ is.map .inr := p.mem_iff.mp List.mem_cons_self
      simp at this
  · refine ⟨ns, rfl, ?_⟩
    have := p.map (fun k : Key => match k with | .inr i => i | .inl _ => Str.empty)
    simpa [List.map_map, Function.comp_def] using this
theorem lt_nodup {α : Type} {r q : α → α → Prop} (h : ∀ a b, r a b → a ≠ b → q a b) : ∀ {l : List α}, l.Pairwise r → l.Nodup → l.Pairwise q
  | [], _, _ => List.Pairwise.nil
  | x :: l, p, d => by
    obtain ⟨p1, p2⟩ := List.pairwise_cons.mp p
    obtain ⟨d1, d2⟩ := List.nodup_cons.mp d
    exact List.pairwise_cons.mpr ⟨fun y hy => h x y (p1 y hy) fun e => d1 (e ▸ hy), lt_nodup h p2 d2⟩
theorem srt_ints (ns : List Int) : ((ns.map Sum.inl : List Key).mergeSort (PySem.W.dataLe false kP)) = (ns.mergeSort fun a b => decide (a ≤ b)).map Sum.inl := by
  refine (List.map_mergeSort fun a ha b hb => ?_).symm
  rw [show PySem.W.dataLe false kP (Sum.inl a) (Sum.inl b) = PySem.W.dataLe false (fun b : Int => PyData.int b) a b from rfl, PySem.W.dataLe_int (fun b : Int => b)]
theorem srt_strs (ns : List Str) : ((ns.map Sum.inr : List Key).mergeSort (PySem.W.dataLe false kP)) = (ns.mergeSort fun a b => decide (a.cps.toList ≤ b.cps.toList)).map Sum.inr := by
  refine (List.map_mergeSort fun a ha b hb => ?_).symm
  rw [show PySem.W.dataLe false kP (Sum.inr a) (Sum.inr b) = PySem.W.dataLe false (fun b : Str => PyData.str b) a b from rfl, PySem.W.dataLe_str (fun b : Str => b)]
theorem str_lt_of {a b : Str} (h : a.cps.toList ≤ b.cps.toList) (n : a ≠ b) : strLt a b := by
  unfold strLt
  rcases List.le_iff_lt_or_eq.mp h with h | h
  · exact h
  · exact absurd (PySem.W.str_of_cps h) n
theorem cr_sortM {X : Cx} (hc : X.calm = true) (hu : X.A.units + 70 < cLine) : CallR X (.builtin "sorted") (rSortM X.prog X.w) := by
  intro pins s σ H vs us Q I r h
  obtain ⟨a, ks, rfl, ha, h⟩ := h
  rw [Vals.ref1 r]
  have R := setMO_get I ha
  have nd : ks.Nodup := by obtain ⟨⟨_, _, _, _, _, _, _, _, _, nd, _⟩⟩ := R; exact nd
  have ok : OneKind ks := by
    rcases h with ⟨is, e, _⟩ | ⟨ss, e, _⟩
    · exact .inl ⟨is, e⟩
    · exact .inr ⟨ss, e⟩
  refine sorted_setM R ok (I.ok.hd hc) hu fun s' p js out c kk hg ho hp pj hv hob hsz => ?_
  have I' : Inv X pins σ H s' := I.call' (ch := []) ho (Un.kept kk) (I.hok.kept kk) (by rw [hg]; exact I.bare) (fun _ z => nomatch z)
  have fr : H p = none := I.hok.fresh hp
  have mk : ∀ xs : List V, (js.mergeSort (PySem.W.dataLe false kP)).map kV = xs → Inv X pins σ (upd H p (.lst xs)) s' := fun xs e => by
    have hl : xs.length ≤ sizeLine := by
      rw [← e, List.length_map, List.length_mergeSort, pj.length_eq, sizeLine_eq]
      unfold scanBound at hsz; omega
    rw [e] at hv
    exact I.call' (ch := []) ho (Un.laid kk hp fr) (I.hok.laid kk hp ⟨hl, out, c, hv, hob⟩) (by rw [hg]; exact I.bare) (fun _ z => nomatch z)
  rcases h with ⟨is, rfl, q⟩ | ⟨ss, rfl, q⟩
  · obtain ⟨ns, rfl, pn⟩ := perm_inl pj
    have nd' : ns.Nodup := by
      have := (pj.nodup_iff.mpr nd)
      exact List.Pairwise.of_map (S := (· ≠ ·)) Sum.inl (fun a b h e => h (congrArg _ e)) this
    have e : ((ns.map Sum.inl : List Key).mergeSort (PySem.W.dataLe false kP)).map kV = (ns.mergeSort fun a b => decide (a ≤ b)).map V.int := by
      rw [srt_ints, List.map_map]; rfl
    refine ⟨.ref p, _, mk _ e, rfl, q p _ fr ((List.mergeSort_perm _ _).trans pn) (lt_nodup (r := (· ≤ ·)) (fun a b h n => by omega) ?_ ((List.mergeSort_perm _ _).nodup_iff.mpr nd'))⟩
    exact (List.pairwise_mergeSort (le := fun a b : Int => decide (a ≤ b)) (fun a b c x y => by simp at x y ⊢; omega) (fun a b => by simp; omega) ns).imp fun h => by simpa using h
  · obtain ⟨ns, rfl, pn⟩ := perm_inr pj
    have nd' : ns.Nodup := by
      have := (pj.nodup_iff.mpr nd)
      exact List.Pairwise.of_map (S := (· ≠ ·)) Sum.inr (fun a b h e => h (congrArg _ e)) this
    have e : ((ns.map Sum.inr : List Key).mergeSort (PySem.W.dataLe false kP)).map kV = (ns.mergeSort fun a b => decide (a.cps.toList ≤ b.cps.toList)).map V.str := by
      rw [srt_strs, List.map_map]; rfl
    refine ⟨.ref p, _, mk _ e, rfl, q p _ fr ((List.mergeSort_perm _ _).trans pn) (lt_nodup (r := fun a b : Str => a.cps.toList ≤ b.cps.toList) (fun a b h n => str_lt_of h n) ?_ ((List.mergeSort_perm _ _).nodup_iff.mpr nd'))⟩
    exact (List.pairwise_mergeSort (le := fun a b : Str => decide (a.cps.toList ≤ b.cps.toList)) (fun a b c x y => by simp only [decide_eq_true_eq] at x y ⊢; exact List.le_trans x y) (fun a b => by simp only [Bool.or_eq_true,decide_eq_true_eq]; exact List.le_total _ _) ns).imp fun h => by simpa using h
end Dw
set_option Elab.async false
set_option linter.all false
set_option maxRecDepth 100000
set_option maxHeartbeats 4000000
/-! DwB: set(a list of whole numbers or texts) (raw part). -/
namespace Dw
open PySem PySem.Spec PyProof.Rows L2
def firstK (js : List Key) (i : Nat) : List Key := (js.take i).foldl addK []
theorem firstK_succ {js : List Key} {i : Nat} {k : Key} (h : js[i]? = some k) : firstK js (i + 1) = addK (firstK js i) k := by
  unfold firstK
  rw [List.take_add_one, h]
  simp
theorem foldl_len : ∀ (js acc : List Key), (js.foldl addK acc).length ≤ acc.length + js.length
  | [], acc => by simp
  | k :: js, acc => by
    rw [List.foldl_cons, List.length_cons]
    have := foldl_len js (addK acc k)
    have := addK_len acc k
    omega
theorem firstK_len (js : List Key) (i : Nat) : (firstK js i).length ≤ i := by
  have h := foldl_len (js.take i) []
  rw [List.length_take] at h
  have : (firstK js i).length ≤ ([] : List Key).length + min i js.length := h
  simp at this; omega
theorem mem_foldl : ∀ (js acc : List Key) (k : Key), k ∈ js.foldl addK acc ↔ k ∈ acc ∨ k ∈ js
  | [], acc, k => by simp
  | j :: js, acc, k => by
    rw [List.foldl_cons, mem_foldl js (addK acc j) k, mem_addK, List.mem_cons, or_assoc]
section
variable {P : Program} {w : World} {A : Around} {E : Value → Shared → Prop} {s : Shared}
theorem set_update_M {I : Addr} {fp wr : List Addr} {G : Array GenState → Array GenState → Prop} {n : Nat} {Pv : Nat → Value → Prop} {St : Nat → Shared → Prop} {R : Result → Shared → Prop}
    (W : WalksS P w A.in1 I fp wr G n Pv St) (B : Addr) (hB : B ∉ fp) (js : List Key) (hn : n = js.length) (room : js.length + 1 < scanBound) (hval : ∀ i v, Pv i v → ∃ k, js[i]? = some k ∧ RelV (kV k) v) :
    ∀ (d i : Nat) (s : Shared), n - i = d → i ≤ n → St i s → SetM P w s.heap B (firstK js i) →
      (∀ s', Moved (B :: wr) G s s' → SetM P w s'.heap B (firstK js n) → R (.ok (.ret .none)) s') →
      codeAny (model P w) A (.builtin "set.update.loop" ⟨[.ref B, .ref I], []⟩) R s := by
  have hBw : B ∉ wr := fun z => hB (W.sub _ z)
  have inc : ∀ b ∈ wr, b ∈ B :: wr := fun b z => List.mem_cons_of_mem _ z
  intro d
  induction d with
  | zero =>
    intro i s hd hi hst hS hR
    have e : i = n := by omega
    subst e
    refine codeAny_builtin F.entry_set_update_loop ?_
    rw [Around.under_plainId F.plain_set_update_loop _]
    show wpAny _ A.in1 (pyNext (.ref I) >>= _) _ _ s
    refine wpAny_bind (W.done s _ _ hst fun s2 mv => ?_)
    show wpAny _ A.in1 (ret Value.none) _ _ s2
    exact wpAny_pure (hR s2 (mv.mono inc) (hS.at fun o q => mv.heap B o hBw q))
  | succ d ih =>
    intro i s hd hi hst hS hR
    have lt : i < n := by omega
    refine codeAny_builtin F.entry_set_update_loop ?_
    rw [Around.under_plainId F.plain_set_update_loop _]
    show wpAny _ A.in1 (pyNext (.ref I) >>= _) _ _ s
    refine wpAny_bind (W.item i s _ _ lt hst fun v s2 pv st2 mv => ?_)
    obtain ⟨k, hk, rv⟩ := hval i v pv
    have hS2 : SetM P w s2.heap B (firstK js i) := hS.at fun o q => mv.heap B o hBw q
    show wpAny _ A.in1 (holding [v] (setAdd B v) >>= _) _ _ s2
    refine wpAny_bind (wpAny_holding (setAdd_M rv hS2 (by have := firstK_len js i; omega) fun h3 b sb S3 => ?_))
    rw [← firstK_succ hk] at S3
    refine wpAny_pure ⟨plainId_quiet F.plain_set_update_loop _, ih (i + 1) _ (by omega) lt (W.frame _ s2 _ _ st2 (Nat.le_succ _) fun c hc o q => ?_) S3 fun s4 mv4 S4 => ?_⟩
    · rw [sb.2 c (fun (z : c = B) => hB (z ▸ hc))]; exact q
    · refine hR s4 (Moved.trans W.gtrans ((mv.mono inc).then_heap (Nat.le_succ _) fun c o hc q => ?_) mv4) S4
      rw [sb.2 c (fun (z : c = B) => hc (z ▸ List.mem_cons_self))]; exact q
/-- a new set's object -/
abbrev obS (w : World) : Obj := { cls := .type "set", dict := none, data := .set #[] 0 (.fresh 0 0 (!w.params.followText "set-order")) }
set_option maxHeartbeats 4000000 in
theorem call_set_M {l : Addr} {items : Array Value} (js : List Key) {Q : Value → Shared → Prop} (hh : A.handled = none) (hl : s.heap.IsList l items) (hn : items.size = js.length)
    (hv : ∀ (i : Nat) (v : Value), items[i]? = some v → ∃ k, js[i]? = some k ∧ RelV (kV k) v) (room : js.length + 1 < scanBound)
    (h : ∀ (h2 : Heap) (tk : Nat), SetM P w h2 s.heap.objs.size (firstK js js.length) → (∀ b o, s.heap.get? b = some o → h2.get? b = some o) → Q (.ref s.heap.objs.size) { s with heap := h2, toks := tk }) :
    wpAny (model P w) A (call (.type "set") [.ref l]) Q E s := by
  obtain ⟨c, tl, hmro⟩ := F.called_set.mro
  obtain ⟨hmade, hsub, h1, h2⟩ := And.intro F.called_set.made (And.intro F.called_set.sub (And.intro F.called_set.notType F.called_set.canCreate))
  refine wpAny_call (codeAny_of_tree ?_)
  show wpAny _ _ (callAny (.type "set") _) _ _ _
  refine wpAny_pure ⟨Code.quiet_builtin _ (by decide +kernel), codeAny_builtin F.entry_type_call ?_⟩
  rw [Around.under_plain (weight_type_call_type "set" [.ref l] []) rfl]
  have hct := F.typeCall_set_1 (.ref l)
  repeat (any_goals (first | assumption | wp_step))
  refine codeAny_mono (code_set_led1 (.ref l) (E := E) (Q₁ := fun x s1 => x = .ref s.heap.objs.size ∧ s1 = { s with heap := s.heap.push (obS w) }) ⟨rfl, rfl⟩) fun r s1 hr => ?_
  cases r with
  | error e => exact hr
  | ok fl =>
    cases fl with
    | ret x =>
      obtain ⟨rfl, rfl⟩ := hr
      have hS : (s.heap.push (obS w)).get? s.heap.objs.size = some (obS w) := Heap.get?_push_size _ rfl
      have hT : Shared.TypeIs { s with heap := s.heap.push (obS w) } (.ref s.heap.objs.size) "set" := ⟨_, hS, rfl⟩
      have fr : SetM P w (s.heap.push (obS w)) s.heap.objs.size [] := setM_fresh P w
      have hli := F.called_set.init.lookup
      have hbi := F.called_set.init.bind (.ref s.heap.objs.size)
      repeat (any_goals (first | assumption | wp_step))
      refine codeAny_mono (codeAny_call_builtin (R := wants (fun r s2 => r = .none ∧ ∃ h2 tk, s2 = { s with heap := h2, toks := tk } ∧ SetM P w h2 s.heap.objs.size (firstK js js.length) ∧
          (∀ b o, s.heap.get? b = some o → h2.get? b = some o)) E) F.called_set.init.plain F.entry_set_init (check_set_init_1 hT ?_)) fun r2 s2 hr2 => ?_
      · obtain ⟨⟨ocls, odict, odata, oslots⟩, hol, hcl, nl, hdl⟩ := hl
        simp only at hcl hdl
        subst hcl; subst hdl
        have hol' : (s.heap.push (obS w)).get? l = some { cls := .type "list", dict := odict, data := .seq items nl, slots := oslots } := Heap.get?_push_of_some _ hol
        have f1 := F.sub_list_set
        have f2 := F.sub_list_frozenset
        have f3 : (Value.type "list" == Value.type "dict") = false := by decide
        have hl1 : (s.heap.push (obS w)).IsList l items := ⟨_, hol', rfl, nl, rfl⟩
        unfold Builtin.«set.__init__» noKeywords Builtin.Frozenset.updateFrom
        generalize hPI : pyIter = PI
        wp_walk
        subst hPI
        refine wpAny_pyIter_list hl1 ?_
        refine wpAny_bind (wpAny_runValue ?_)
        have lS : l < s.heap.objs.size := Heap.lt_size hol
        have hh3 : A.in1.in1.in1.handled = none := by simp [hh]
        have zz : (s.heap.push (obS w)).objs.size = s.heap.objs.size + 1 := Heap.size_push ..
        have lI : l ≠ (s.heap.push (obS w)).objs.size := by rw [zz]; exact Nat.ne_of_lt (Nat.lt_succ_of_lt lS)
        have nf : s.heap.objs.size ∉ [(s.heap.push (obS w)).objs.size, l] := by
          rw [zz]; simp only [List.mem_cons,List.mem_singleton,List.not_mem_nil,or_false,not_or]
          exact ⟨Nat.ne_of_lt (Nat.lt_succ_self _), Nat.ne_of_gt lS⟩
        refine set_update_M ((Walks.list hh3 _ l lI items).toS) s.heap.objs.size nf js hn room hv (items.size - 0) 0 _ (by omega) (Nat.zero_le _)
          ⟨⟨_, Heap.get?_push_size _ rfl, rfl, rfl⟩, (hl1.push _)⟩ ?hS0 ?hR
        case hS0 => exact fr.at fun o q => Heap.get?_push_of_some _ q
        case hR =>
          intro s4 mv S4
          obtain ⟨h4, g4, d4, tk4, os4⟩ := s4
          have eg : g4 = s.gens := mv.gens
          have ed : d4 = s.drawn := mv.drawn
          have eo : os4 = s.os := mv.os
          subst eg; subst ed; subst eo
          show wpAny _ _ _ _ _ _
          refine wpAny_pure ?_
          show wpAny _ _ (ret Value.none) _ _ _
          rw [hn] at S4
          refine wpAny_pure ⟨rfl, h4, tk4, rfl, S4, fun b o q => ?_⟩
          have bl := Heap.lt_size q
          refine mv.heap b o (fun z => ?_) (Heap.get?_push_of_some _ (Heap.get?_push_of_some _ q))
          rcases List.mem_cons.mp z with z | z
          · rw [z] at bl; exact absurd bl (Nat.lt_irrefl _)
          · rw [List.mem_singleton.mp z, zz] at bl; exact absurd bl (Nat.not_lt.mpr (Nat.le_succ _))
      · cases r2 with
        | error e => exact hr2
        | ok fl2 =>
          cases fl2 with
          | ret r =>
            obtain ⟨rfl, h2, tk, rfl, S2, kk⟩ := hr2
            repeat (any_goals (first | assumption | wp_step))
            exact h _ _ S2 kk
          | _ => exact hr2.elim
    | _ => exact hr.elim
end
/-- set(xs): a list of numbers and texts -/
def rSetM (K : PySem.W.Frag) (P : Program) (w : World) : List V → Hp → VK → Prop := fun vs H Q => ∃ (l : Addr) (js : List Key), vs = [V.ref l] ∧ SqL K H l (js.map kV) ∧ js.length < 4000 ∧
  ∀ p, H p = none → Q (.ref p) (upd H p (SetMO P w p (firstK js js.length)))
theorem vals_kV : ∀ {js : List Key} {us : List Value}, Vals (js.map kV) us → ∀ (i : Nat) (v : Value), us[i]? = some v → ∃ k, js[i]? = some k ∧ RelV (kV k) v
  | [], _, r, i, v, h => by cases r; simp at h
  | k :: js, _, r, i, v, h => by
    rw [List.map_cons] at r
    cases r with
    | cons r1 r2 =>
      cases i with
      | zero => simp at h; subst h; exact ⟨k, rfl, r1⟩
      | succ i => exact vals_kV r2 i v (by simpa using h)
theorem cr_setM {X : Cx} (hc : X.calm = true) : CallR X (.type "set") (rSetM X.K X.prog X.w) := by
  intro pins s σ H vs us Q I r h
  obtain ⟨l, js, rfl, hl, hz, q⟩ := h
  rw [Vals.ref1 r]
  obtain ⟨its, rv, pl, _⟩ := I.list hl
  have e := rv.length
  rw [List.length_map] at e
  refine call_set_M js (I.ok.hd hc) pl.isList (by simpa using e.symm) (fun i v hv => vals_kV rv i v (by simpa using hv)) (by unfold scanBound; omega) fun h2 tk S2 kk => ?_
  exact ⟨.ref s.heap.objs.size, _, I.laid (t' := tk) kk (Nat.le_refl _) (setMO_new S2), rfl, q _ (I.hok.fresh (Nat.le_refl _))⟩
end Dw
set_option Elab.async false
set_option linter.all false
set_option maxRecDepth 100000
set_option maxHeartbeats 4000000
/-! DwC: set comprehensions of whole numbers and texts, one for or two (raw part): the walk of the first for with what is done in a turn left open (BT). -/
namespace Dw
open PySem PySem.Spec PyProof.Rows L2
section
variable (P : Program) (w : World)
abbrev Wp1 {α : Type} (A : Around) (m : Sem α) (Q : α → Shared → Prop) (E : Value → Shared → Prop) (s : Shared) : Prop := wpAny (model P w) A m Q E s
/-- where an error goes -/
abbrev nE (A : Around) (v : Env) (R : Result → Shared → Prop) : Value → Shared → Prop := notedBy (model P w) A v fun x z => R (.error x) z
/-- the tests of a for -/
abbrev ifsOf (ifs : List Expr) (v : Env) : Sem Bool := forIn ifs true fun c r => if r = true then do let ok ← isTrue c v (eval c v); pure (ForInStep.yield ok) else pure (ForInStep.yield r)
/-- one turn of a for, up to what is done with the item -/
def TurnW (A : Around) (v : Env) (R : Result → Shared → Prop) (tg : Expr) (ifs : List Expr) (it : Value) (yes no : Shared → Prop) (s : Shared) : Prop :=
  Wp1 P w A (pyNext it) (fun r s1 => match r with
    | none => R (.ok .next) s1
    | some u => Wp1 P w A (letOwnedTupleGo tg it u) (fun _ s2 => Wp1 P w A (assign tg v u) (fun _ s3 => Wp1 P w A (ifsOf ifs v) (fun ok s4 => if ok = true then yes s4 else no s4) (nE P w A v R) s3) (nE P w A v R) s2) (nE P w A v R) s1) (nE P w A v R) s
abbrev BTy := Around → Env → Value → (Result → Shared → Prop) → (Shared → Prop) → Shared → Prop
/-- the first for of e -/
structure ScRule (e tg : Expr) (ifs : List Expr) (BT : BTy) (ok : Env → Prop) : Prop where
  loop : ∀ (A : Around) (R : Result → Shared → Prop) (v : Env) (it acc : Value) (I : Nat → Shared → Prop), ok v → (∀ n s, I n s → TurnW P w A v R tg ifs it (fun s4 => BT A v acc R (fun s5 => ∃ m, m < n ∧ I m s5) s4) (fun s4 => ∃ m, m < n ∧ I m s4) s) →
    ∀ n s, I n s → codeAny (model P w) A (.compLoop e 0 it acc v) R s
  start : ∀ (A : Around) (R : Result → Shared → Prop) (v : Env) (it acc : Value) (s : Shared), codeAny (model P w) A (.compLoop e 0 it acc v) R s → Wp1 P w A (pyIter it) (fun it' s' => codeAny (model P w) A (.compLoop e 0 it' acc v) R s') (nE P w A v R) s →
    codeAny (model P w) A (.compStart e 0 it acc v) R s
end
section
variable {X : Cx}
/-- the reading of a set comprehension: tb is what is done with an item, for the set at B -/
def tSet (P : Program) (w : World) (wi : TI) (g : TG) (tt : TT) (tb : Addr → L2.St → Hp → (Hp → Prop) → Prop) (vs : List Nat) : TE := fun σ H Q => wi σ H fun J H1 => ∀ B, H1 B = none → ∃ W : Nat → Nat → Hp → Prop, (∃ m, W 0 m (upd H1 B (SetMO P w B []))) ∧ ∀ i m H, W i m H →
  (J.stop i H ∧ Q (.ref B) H) ∨ (J.go i H ∧ ∃ Nx : Hp → Prop, (∀ H', Nx H' → ∃ m', m' < m ∧ W (i + 1) m' H') ∧ ∀ x H', J.yld i H x H' → g x (wipe σ vs) H' fun σ2 H2 => wipe σ2 vs = wipe σ vs ∧ tt σ2 H2 fun b H3 => if b = true then tb B σ2 H3 Nx else Nx H3)
/-- what is done with an item goes by its reading -/
def BodyOk (Y : Cx) (BT : BTy) (vs : List Nat) (tb : Addr → L2.St → Hp → (Hp → Prop) → Prop) : Prop :=
  ∀ (pins : List (Addr × Obj)) (s : Shared) (σ : L2.St) (H : Hp) (B : Addr) (Nx : Hp → Prop) (Kp : Shared → Prop) (R : Result → Shared → Prop), Inv Y pins σ H s → tb B σ H Nx →
    (∀ s' σ' H', Inv Y pins σ' H' s' → σ'.length = σ.length → (∀ (j : Nat) v, (wipe σ vs)[j]? = some (some v) → σ'[j]? = some (some v)) → Nx H' → Kp s') → BT Y.A Y.env (.ref B) R Kp s
theorem set_core {pins : List (Addr × Obj)} {s : Shared} {σ : L2.St} {H : Hp} {Q : VK} {elt tg iter : Expr} {ifs : List Expr} {rest : List Comprehension} {scope : Scope} {own : List (Str × Nat)} {p0 pos : Pos} {wi : TI} {g : TG} {tt : TT}
    {BT : BTy} {ok0 : Env → Prop} {tb : Addr → L2.St → Hp → (Hp → Prop) → Prop} {Qf : Value → Shared → Prop} (hc : X.calm = true) (hN : X.N.Nodup) (I : Inv X pins σ H s) (hi : PI X tg iter wi) (ok : BlkOk X.N X.env.scope scope own)
    (rule : ScRule X.prog X.w (.SetComp elt (⟨tg, iter, ifs, 0⟩ :: rest) scope p0) tg ifs BT ok0) (h0 : ∀ v, ok0 v)
    (hg : ∀ (s : Shared) (H : Hp) (C : Addr) (cl : List (Str × Addr)) (fp : List Addr), PG (X.blk s H scope (compEnvC scope cl C X.env) fp) tg g) (ht : ∀ (s : Shared) (H : Hp) (C : Addr) (cl : List (Str × Addr)) (fp : List Addr), PTs (X.blk s H scope (compEnvC scope cl C X.env) fp) ifs tt)
    (hb : ∀ (s : Shared) (H : Hp) (C : Addr) (cl : List (Str × Addr)) (fp : List Addr), BodyOk (X.blk s H scope (compEnvC scope cl C X.env) fp) BT (own.map (·.2)) tb) (hs : ∀ x, foldedSetIterable iter X.env x = pure x)
    (h : tSet X.prog X.w wi g tt tb (own.map (·.2)) σ H Q)
    (fin : ∀ B C s' m H', Inv X pins σ H' s' → Q (.ref B) H' → s'.heap.Ns C m → FpOk X pins H' C → compPost (model X.prog X.w) X.A X.xe none Qf (.ref B) C (.ok .next) s') :
    wpAny (model X.prog X.w) X.A (comprehension (.SetComp elt (⟨tg, iter, ifs, 0⟩ :: rest) scope p0) scope X.env pos (newSet (.type "set")) false (eval iter X.env) none) Qf X.xe s := by
  have free : ∀ y ∈ scope.names, y.2 = .free → ∃ c, X.env.cells.lookup y.1 = some c := fun y hy e => by
    rcases ok.free y hy e with z | z
    · exact I.ok.has _ (.inl z)
    · exact I.ok.has _ (.inr z)
  refine wpAny_comprehension_free (use := none) rfl hs (closure_ok free) ok.kind (fun y hy e => by rw [ok.uniq y hy, e])
    (thn (hi.run pins s σ H _ I h) fun xv s1 hx => thn hx fun itv s2 ⟨it, fp, tn, J, H2, e, I2, T, st2, f2, q⟩ => ?_)
  subst e
  refine PpSet.newSet_ok (newEnv_comp ?_)
  have nB : H2 s2.heap.objs.size = none := I2.hok.fresh (Nat.le_refl _)
  obtain ⟨W, ⟨m0, w0⟩, turn⟩ := q _ nB
  generalize hs3 : ({ s2 with heap := s2.heap.push (obS X.w) } : Shared) = s3
  have e3 : s3.heap = s2.heap.push (obS X.w) := by rw [← hs3]
  generalize hB : s2.heap.objs.size = B at nB w0 turn
  have I3 : Inv X pins σ (upd H2 B (SetMO X.prog X.w B [])) s3 := by
    rw [← hs3]
    refine I2.laid (t' := s2.toks) (fun b o z => Heap.get?_push_of_some _ z) (Nat.le_of_eq hB) ?_
    rw [← hB]
    exact setMO_new (setM_fresh X.prog X.w)
  have lt2 : ∀ b ∈ fp, b < s2.heap.objs.size := fun b z => by
    obtain ⟨o, z1, _⟩ := T.obj _ _ st2 b z
    exact Heap.lt_size z1
  have f3 : ∀ b ∈ fp, FpOk X pins (upd H2 B (SetMO X.prog X.w B [])) b ∧ b < s3.heap.objs.size := fun b z => by
    have l := lt2 b z
    refine ⟨⟨?_, (f2 b z).2⟩, by rw [e3, Heap.size_push]; exact Nat.lt_succ_of_lt l⟩
    rw [upd_ne (by rw [← hB]; exact Nat.ne_of_lt l)]
    exact (f2 b z).1
  have st3 : tn 0 s3.heap := T.keep _ _ _ st2 fun b _ o z => by rw [e3]; exact Heap.get?_push_of_some _ z
  have I4 := block_start I3 ok hN f3
  generalize hcl : cellsFrom (s3.heap.objs.size + 1) scope.names (cloFrom X.env.cells scope.names []) = cl at I4 ⊢
  obtain ⟨pg, pt, pb⟩ := And.intro (hg s3 (upd H2 B (SetMO X.prog X.w B [])) s3.heap.objs.size cl fp) (And.intro (ht s3 (upd H2 B (SetMO X.prog X.w B [])) s3.heap.objs.size cl fp) (hb s3 (upd H2 B (SetMO X.prog X.w B [])) s3.heap.objs.size cl fp))
  have nfp : ∀ b ∈ fp, (upd H2 B (SetMO X.prog X.w B [])) b = none := fun b z => (f3 b z).1.1
  generalize hce : compEnvC scope cl s3.heap.objs.size X.env = ce at I4 pg pt pb ⊢
  have cL : ce.locals = s3.heap.objs.size := by subst hce; rfl
  generalize hH3 : upd H2 B (SetMO X.prog X.w B []) = H3 at I3 I4 pg pt pb w0 nfp f3
  generalize hs4 : ({ s3 with heap := pushCells (s3.heap.push { cls := .type "dict", data := .dict #[] }) scope.names } : Shared) = s4 at I4
  generalize hY : X.blk s3 H3 scope ce fp = Y at I4 pg pt pb
  have st4 : tn 0 s4.heap := T.keep _ _ _ st3 fun b _ o z => by rw [← hs4]; exact pushCells_keeps _ _ _ _ (Heap.get?_push_of_some _ z)
  have foot : ∀ {σ' : L2.St} {H' : Hp} {s' : Shared}, Inv Y [] σ' H' s' → (∀ b ∈ fp, H' b = none) → ∀ b ∈ fp, FpOk Y [] H' b := fun {σ' H' s'} I' n b z => by
    subst hY
    exact ⟨n b z, (I'.ok.exf b z).1, I'.ok.exfs b z, .inl z, fun x c z1 => (I'.ok.exf b z).2 x c z1, fun p hp => absurd (show p ∈ ([] : List (Addr × Obj)) ++ [] from hp) (by simp)⟩
  obtain ⟨yP, yw, yK, yc, yA, yv, yx⟩ : Y.prog = X.prog ∧ Y.w = X.w ∧ Y.K = X.K ∧ Y.calm = true ∧ Y.A = X.A ∧ Y.env = ce ∧ Y.xe = fun _ _ => False := by subst hY; exact ⟨rfl, rfl, rfl, hc, rfl, rfl, rfl⟩
  have loop : codeAny (model X.prog X.w) X.A (.compLoop (.SetComp elt (⟨tg, iter, ifs, 0⟩ :: rest) scope p0) 0 (.ref it) (.ref B) ce) (compPost (model X.prog X.w) X.A X.xe none Qf (.ref B) s3.heap.objs.size) s4 := by
    refine rule.loop _ _ _ _ _ (fun n z => ∃ i H', Inv Y [] (wipe σ (own.map (·.2))) H' z ∧ tn i z.heap ∧ (∀ b ∈ fp, H' b = none) ∧ W i n H') (h0 _) ?_ m0 s4 ⟨0, H3, I4, st4, nfp, w0⟩
    rintro n s5 ⟨i, H5, I5, st5, n5, w5⟩
    unfold TurnW
    rcases turn i n H5 w5 with ⟨stop, qq⟩ | ⟨go, Nx, hNx, step⟩
    · have td := T.done Y yP yw yK yc i [] s5 _ H5 (fun _ _ => False) I5 (foot I5 n5) st5 stop
      rw [yA] at td
      refine thnF td fun r s6 ⟨hr, I6⟩ => ?_
      subst hr
      subst hY
      have I7 : Inv X pins σ H5 s6 := I3.call' (ch := fp) I6.os I6.base I6.hok I6.bare fun b z => ⟨(f3 b z).1.2.2.2.1, (f3 b z).1.2.1, (f3 b z).1.2.2.2.2.1, (f3 b z).1.2.2.2.2.2⟩
      have nC : H5 s3.heap.objs.size = none := by rw [← cL]; exact I6.free
      obtain ⟨m, hn, _⟩ := I6.loc
      have hn' : s6.heap.Ns ce.locals m := hn
      rw [cL] at hn'
      exact fin B s3.heap.objs.size s6 m H5 I7 qq hn' (I3.fpOk (Nat.le_refl _) nC)
    · have ti := T.item Y yP yw yK yc i [] s5 _ H5 (fun _ _ => False) I5 (foot I5 n5) st5 go
      rw [yA] at ti
      refine thnF ti fun r s6 ⟨u, hr, h6⟩ => ?_
      subst hr
      refine thnF h6 fun _ s7 ⟨x, H7, I7, r7, y7, st7, n7⟩ => ?_
      have I7' := I7.pinned (foot I7 n7) (T.obj _ _ st7)
      have pg7 := pg.run _ s7 _ H7 x u _ I7' r7 (step x H7 y7)
      rw [yP, yw, yA, yv, yx] at pg7
      refine thnF pg7 fun _ s8 ⟨σ8, H8, I8, hw8, q8⟩ => ?_
      have pt8 := pt.run _ s8 σ8 H8 _ I8 q8
      rw [yP, yw, yA, yv, yx] at pt8
      refine thnF pt8 fun b s9 ⟨H9, I9, q9⟩ => ?_
      have l8 : σ8.length = (wipe σ (own.map (·.2))).length := by rw [← hw8, wipe_length]
      have close : ∀ s' σ' H', Inv Y ([] ++ pinsAt fp s7.heap) σ' H' s' → σ'.length = σ8.length → (∀ (j : Nat) v, (wipe σ8 (own.map (·.2)))[j]? = some (some v) → σ'[j]? = some (some v)) → Nx H' →
          ∃ m, m < n ∧ ∃ i H', Inv Y [] (wipe σ (own.map (·.2))) H' s' ∧ tn i s'.heap ∧ (∀ b ∈ fp, H' b = none) ∧ W i m H' := fun s' σ' H' I' hl hk nx => by
        obtain ⟨m', hm, w'⟩ := hNx H' nx
        have pin' : ∀ b ∈ fp, ∀ o, s7.heap.get? b = some o → s'.heap.get? b = some o ∧ H' b = none := fun b hb' o z => by
          obtain ⟨z1, z2, _⟩ := I'.pin (b, o) (List.mem_append_right _ (List.mem_append_right _ (mem_pinsAt hb' z)))
          exact ⟨z1, z2⟩
        refine ⟨m', hm, i + 1, H', (I'.unpinned (pins := [])).weak (by rw [hl, l8]) (fun j v z => hk j v (by rw [hw8]; exact z)), T.keep _ _ _ st7 fun b hb' o z => (pin' b hb' o z).1, fun b hb' => ?_, w'⟩
        obtain ⟨o, z, _⟩ := T.obj _ _ st7 b hb'
        exact (pin' b hb' o z).2
      cases b with
      | false =>
        simp only [Bool.false_eq_true,if_false] at q9 ⊢
        exact close s9 σ8 H9 I9 rfl (fun j v z => (wipe_some z).1) q9
      | true =>
        simp only [if_true] at q9 ⊢
        have := pb _ s9 σ8 H9 B Nx _ (compPost (model X.prog X.w) X.A X.xe none Qf (.ref B) s3.heap.objs.size) I9 q9 close
        rw [yA, yv] at this
        exact this
  subst hs4
  subst hs3
  subst hce
  subst hcl
  exact rule.start _ _ _ _ _ _ loop (T.self X.A 0 _ _ _ st4 loop)
end

/-! ### one for -/
section
variable (P : Program) (w : World)
def BT1 (elt : Expr) : BTy := fun A v acc R Kp s => Wp1 P w A (eval elt v) (fun x s4 => Wp1 P w A (call (.builtin "set.add") [acc, x]) (fun _ s5 => Kp s5) (nE P w A v R) s4) (nE P w A v R) s
theorem rule1 (elt tg iter : Expr) (ifs : List Expr) (scope : Scope) (p0 : Pos) : ScRule P w (.SetComp elt [⟨tg, iter, ifs, 0⟩] scope p0) tg ifs (BT1 P w elt) fun _ => True where
  loop := fun A R v it acc I _ turn n s h => PpSet.compLoopS_any I turn n h
  start := fun A R v it acc s h0 h => PpSet.codeAny_compStart_set h0 h
/-! ### two fors -/
abbrev e2 (elt t0 i0 t1 i1 : Expr) (f0 f1 : List Expr) (scope : Scope) (p0 : Pos) : Expr := .SetComp elt [⟨t0, i0, f0, 0⟩, ⟨t1, i1, f1, 0⟩] scope p0
def BT2 (elt t0 i0 t1 i1 : Expr) (f0 f1 : List Expr) (scope : Scope) (p0 : Pos) : BTy := fun A v acc R Kp s => Wp1 P w A (eval i1 v) (fun x s4 => Wp1 P w A (pyIter x) (fun it1 s5 =>
  codeAny (model P w) A (.compStart (e2 elt t0 i0 t1 i1 f0 f1 scope p0) 1 it1 acc v) (fun r s' => match r with
    | .ok _ => Kp s'
    | .error _ => False) s5) (nE P w A v R) s4) (nE P w A v R) s
variable {P w}
variable {elt t0 i0 t1 i1 : Expr} {f0 f1 : List Expr} {scope : Scope} {p0 : Pos} {A : Around} {it acc : Value} {v : Env} {R : Result → Shared → Prop} {s : Shared}
theorem turn2_out : compTurn (e2 elt t0 i0 t1 i1 f0 f1 scope p0) 0 it acc v = (do
      standAt i0.pos
      match ← pyNext it with
      | none => pure (.done .next)
      | some u =>
        letOwnedTupleGo t0 it u
        assign t0 v u
        let mut yes := true
        for c in f0 do
          if yes then yes ← isTrue c v (eval c v)
        if yes then
          let x ← eval i1 v
          standAt i1.pos
          let x ← foldedSetIterable i1 v x
          let _ ← runOwn (.compStart (e2 elt t0 i0 t1 i1 f0 f1 scope p0) 1 (← holding [x] (pyIter x)) acc v) v
        again (.compLoop (e2 elt t0 i0 t1 i1 f0 f1 scope p0) 0 it acc v)) := by rfl
theorem turn2_in : compTurn (e2 elt t0 i0 t1 i1 f0 f1 scope p0) 1 it acc v = (do
      standAt i1.pos
      match ← pyNext it with
      | none => pure (.done .next)
      | some u =>
        letOwnedTupleGo t1 it u
        assign t1 v u
        let mut yes := true
        for c in f1 do
          if yes then yes ← isTrue c v (eval c v)
        if yes then
          (do let u ← eval elt v; standAt elt.pos; let _ ← call (.builtin "set.add") [acc, u])
        again (.compLoop (e2 elt t0 i0 t1 i1 f0 f1 scope p0) 1 it acc v)) := by rfl
theorem loop2_out (hs : ∀ x, foldedSetIterable i1 v x = pure x) (I : Nat → Shared → Prop)
    (turn : ∀ n s, I n s → TurnW P w A v R t0 f0 it (fun s4 => BT2 P w elt t0 i0 t1 i1 f0 f1 scope p0 A v acc R (fun s5 => ∃ m, m < n ∧ I m s5) s4) (fun s4 => ∃ m, m < n ∧ I m s4) s) (n : Nat) (h : I n s) :
    codeAny (model P w) A (.compLoop (e2 elt t0 i0 t1 i1 f0 f1 scope p0) 0 it acc v) R s := by
  refine codeAny_loop rfl I (fun n s hI => ?_) n h
  show wpAny _ A ((compTurn (e2 elt t0 i0 t1 i1 f0 f1 scope p0) 0 it acc v).onRaise (fun x => do noteFrame x v; theTreesLotGoes x)) _ _ s
  refine wpAny_noted ?_
  rw [turn2_out]
  refine wpAny_bind (wpAny_standAt (wpAny_bind (wpAny_mono (turn n s hI) (fun r s1 q1 => ?_) fun _ _ z => z)))
  cases r with
  | none => exact wpAny_pure q1
  | some u =>
    refine wpAny_bind (wpAny_mono q1 (fun _ s2 q2 => wpAny_bind (wpAny_mono q2 (fun _ s3 q3 => wpAny_bind (wpAny_mono q3 (fun yes s4 q4 => ?_) fun _ _ z => z)) fun _ _ z => z)) fun _ _ z => z)
    cases yes with
    | false => exact wpAny_pure ⟨rfl, q4⟩
    | true =>
      have q4' : BT2 P w elt t0 i0 t1 i1 f0 f1 scope p0 A v acc R (fun s5 => ∃ m, m < n ∧ I m s5) s4 := q4
      refine wpAny_bind (wpAny_mono q4' (fun x s5 q5 => ?_) fun _ _ z => z)
      refine wpAny_bind (wpAny_standAt (wpAny_bind (wpAny_of_eq (hs x) (wpAny_bind (wpAny_holding (wpAny_mono q5 (fun it1 s6 q6 => ?_) fun _ _ z => z))))))
      refine wpAny_bind (wpAny_runOwn ?_)
      rw [Around.mark_none]
      refine codeAny_mono q6 fun r s7 hr => ?_
      cases r with
      | ok f => first | exact wpAny_pure ⟨rfl, hr⟩ | exact wpAny_bind (wpAny_pure (wpAny_pure ⟨rfl, hr⟩))
      | error e => exact hr.elim
theorem loop2_in (I : Nat → Shared → Prop)
    (turn : ∀ n s, I n s → TurnW P w A v R t1 f1 it (fun s4 => BT1 P w elt A v acc R (fun s5 => ∃ m, m < n ∧ I m s5) s4) (fun s4 => ∃ m, m < n ∧ I m s4) s) (n : Nat) (h : I n s) :
    codeAny (model P w) A (.compLoop (e2 elt t0 i0 t1 i1 f0 f1 scope p0) 1 it acc v) R s := by
  refine codeAny_loop rfl I (fun n s hI => ?_) n h
  show wpAny _ A ((compTurn (e2 elt t0 i0 t1 i1 f0 f1 scope p0) 1 it acc v).onRaise (fun x => do noteFrame x v; theTreesLotGoes x)) _ _ s
  refine wpAny_noted ?_
  rw [turn2_in]
  refine wpAny_bind (wpAny_standAt (wpAny_bind (wpAny_mono (turn n s hI) (fun r s1 q1 => ?_) fun _ _ z => z)))
  cases r with
  | none => exact wpAny_pure q1
  | some u =>
    refine wpAny_bind (wpAny_mono q1 (fun _ s2 q2 => wpAny_bind (wpAny_mono q2 (fun _ s3 q3 => wpAny_bind (wpAny_mono q3 (fun yes s4 q4 => ?_) fun _ _ z => z)) fun _ _ z => z)) fun _ _ z => z)
    cases yes with
    | false => exact wpAny_pure ⟨rfl, q4⟩
    | true =>
      have q4' : BT1 P w elt A v acc R (fun s5 => ∃ m, m < n ∧ I m s5) s4 := q4
      exact wpAny_bind (wpAny_bind (wpAny_mono q4' (fun x s5 q5 => wpAny_bind (wpAny_standAt (wpAny_bind (wpAny_mono q5 (fun _ s6 q6 => wpAny_pure (wpAny_pure ⟨rfl, q6⟩)) fun _ _ z => z)))) fun _ _ z => z))
theorem start2 (h0 : codeAny (model P w) A (.compLoop (e2 elt t0 i0 t1 i1 f0 f1 scope p0) 1 it acc v) R s)
    (h : Wp1 P w A (pyIter it) (fun it' s' => codeAny (model P w) A (.compLoop (e2 elt t0 i0 t1 i1 f0 f1 scope p0) 1 it' acc v) R s') (nE P w A v R) s) :
    codeAny (model P w) A (.compStart (e2 elt t0 i0 t1 i1 f0 f1 scope p0) 1 it acc v) R s := by
  refine codeAny_of_tree ?_
  show wpAny _ _ ((compStart (e2 elt t0 i0 t1 i1 f0 f1 scope p0) 1 it acc v).onRaise (fun x => do noteFrame x v; standAt theWindowsPlace)) _ _ s
  refine wpAny_notedAt ?_
  unfold compStart
  show wpAny _ _ (ask >>= _) _ _ s
  refine wpAny_bind (wpAny_askSetting (wpAny_ite ?_))
  split
  · first | exact wpAny_bind (wpAny_pure (wpAny_pure (And.intro rfl h0))) | exact wpAny_pure (And.intro rfl h0)
  · refine wpAny_bind (wpAny_rule ?_)
    show wpAny _ _ (standAt i1.pos >>= _) _ _ s
    exact wpAny_bind (wpAny_standAt (wpAny_bind (wpAny_mono h (fun it' s' z => wpAny_pure (And.intro rfl z)) fun _ _ z => z)))
theorem rule2 (hs : ∀ v x, foldedSetIterable i1 v x = pure x) : ScRule P w (e2 elt t0 i0 t1 i1 f0 f1 scope p0) t0 f0 (BT2 P w elt t0 i0 t1 i1 f0 f1 scope p0) fun _ => True where
  loop := fun A R v it acc I _ turn n s h => loop2_out (hs v) I turn n h
  start := fun A R v it acc s h0 h => PpSet.codeAny_compStart_set h0 h
end
section
variable {X : Cx}
def tb1 (P : Program) (w : World) (te : TE) (B : Addr) (σ : L2.St) (H : Hp) (Nx : Hp → Prop) : Prop := te σ H fun y H4 => ∃ (k : Key) (ks : List Key), y = kV k ∧ H4 B = some (SetMO P w B ks) ∧ ks.length + 1 < scanBound ∧ Nx (upd H4 B (SetMO P w B (addK ks k)))
theorem body1 {Y : Cx} {elt : Expr} {te : TE} {vs : List Nat} (he : PE Y elt te) (hx : Y.xe = fun _ _ => False) : BodyOk Y (BT1 Y.prog Y.w elt) vs (tb1 Y.prog Y.w te) := by
  intro pins s σ H B Nx Kp R I h k
  unfold BT1
  have q := he.run pins s σ H _ I h
  rw [hx] at q
  refine thnF q fun x s4 ⟨y, H4, I4, r4, ky, ks, ey, hB, hz, nx⟩ => ?_
  subst ey
  exact addMO_ok I4 hB r4 hz fun s5 I5 => k s5 σ _ I5 rfl (fun j v z => (wipe_some z).1) nx
def tb2 (P : Program) (w : World) (wi1 : TI) (g1 : TG) (tt1 : TT) (te : TE) (vs1 : List Nat) (B : Addr) (σ : L2.St) (H : Hp) (Nx : Hp → Prop) : Prop := wi1 σ H fun J1 H4 => ∃ W1 : Nat → Nat → Hp → Prop, (∃ m, W1 0 m H4) ∧ ∀ j k H, W1 j k H →
  (J1.stop j H ∧ Nx H) ∨ (J1.go j H ∧ ∃ Nx1 : Hp → Prop, (∀ H', Nx1 H' → ∃ k', k' < k ∧ W1 (j + 1) k' H') ∧ ∀ x H', J1.yld j H x H' → g1 x (wipe σ vs1) H' fun σ3 H5 => wipe σ3 vs1 = wipe σ vs1 ∧ tt1 σ3 H5 fun b H6 =>
    if b = true then tb1 P w te B σ3 H6 Nx1 else Nx1 H6)
theorem body2 {Y : Cx} {elt t0 i0 t1 i1 : Expr} {f0 f1 : List Expr} {scope : Scope} {p0 : Pos} {wi1 : TI} {g1 : TG} {tt1 : TT} {te : TE} {vs vs1 : List Nat} (hc : Y.calm = true) (hi1 : PI Y t1 i1 wi1) (hg1 : PG Y t1 g1) (ht1 : PTs Y f1 tt1) (he : PE Y elt te)
    (hx : Y.xe = fun _ _ => False) (hv : ∀ i ∈ vs1, i ∈ vs) : BodyOk Y (BT2 Y.prog Y.w elt t0 i0 t1 i1 f0 f1 scope p0) vs (tb2 Y.prog Y.w wi1 g1 tt1 te vs1) := by
  intro pins s9 σ8 H9 B Nx Kp R I9 q9 close
  unfold BT2
  have qi := hi1.run pins s9 σ8 H9 _ I9 q9
  rw [hx] at qi
  refine thnF qi fun xv s10 hx1 => thnF hx1 fun itv s11 ⟨it1, fp1, tn1, J1, H11, e1, I11, T1, st11, f11, W1, ⟨m1, w1⟩, turn1⟩ => ?_
  subst e1
  have foot : ∀ {H' : Hp}, (∀ b ∈ fp1, H' b = none) → ∀ b ∈ fp1, FpOk Y pins H' b := fun n b z => ⟨n b z, (f11 b z).2⟩
  have keep9 : ∀ (j : Nat) v, (wipe σ8 vs)[j]? = some (some v) → (wipe σ8 vs1)[j]? = some (some v) := fun j v z => by
    obtain ⟨z1, z2⟩ := wipe_some z
    rw [wipe_out fun y => z2 (hv j y)]
    exact z1
  have loop1 : codeAny (model Y.prog Y.w) Y.A (.compLoop (e2 elt t0 i0 t1 i1 f0 f1 scope p0) 1 (.ref it1) (.ref B) Y.env) (fun r s' => match r with
      | .ok _ => Kp s'
      | .error _ => False) s11 := by
    refine loop2_in (fun k z => ∃ j H', Inv Y pins (wipe σ8 vs1) H' z ∧ tn1 j z.heap ∧ (∀ b ∈ fp1, H' b = none) ∧ W1 j k H') ?_ m1 ⟨0, H11, I11.weak (wipe_length _ _) (fun j v z => (wipe_some z).1), st11, fun b z => (f11 b z).1, w1⟩
    rintro k s12 ⟨j, H12, I12, st12, n12, w12⟩
    unfold TurnW
    rcases turn1 j k H12 w12 with ⟨stop1, nx1⟩ | ⟨go1, Nx1, hNx1, step1⟩
    · refine thnF (T1.done Y rfl rfl rfl hc j _ s12 (wipe σ8 vs1) H12 (fun _ _ => False) I12 (foot n12) st12 stop1) fun r s13 ⟨hr, I13⟩ => ?_
      subst hr
      exact close s13 _ H12 I13 (wipe_length σ8 vs1) keep9 nx1
    · refine thnF (T1.item Y rfl rfl rfl hc j _ s12 (wipe σ8 vs1) H12 (fun _ _ => False) I12 (foot n12) st12 go1) fun r s13 ⟨u1, hr, h13⟩ => ?_
      subst hr
      refine thnF h13 fun _ s14 ⟨x1, H14, I14, r14, y14, st14, n14⟩ => ?_
      have I14' := I14.pinned (foot n14) (T1.obj _ _ st14)
      have pg14 := hg1.run _ s14 (wipe σ8 vs1) H14 x1 u1 _ I14' r14 (step1 x1 H14 y14)
      rw [hx] at pg14
      refine thnF pg14 fun _ s15 ⟨σ15, H15, I15, hw15, q15⟩ => ?_
      have pt15 := ht1.run _ s15 σ15 H15 _ I15 q15
      rw [hx] at pt15
      refine thnF pt15 fun b1 s16 ⟨H16, I16, q16⟩ => ?_
      have close1 : ∀ s' H', Inv Y (pins ++ pinsAt fp1 s14.heap) σ15 H' s' → Nx1 H' → ∃ m, m < k ∧ ∃ j H', Inv Y pins (wipe σ8 vs1) H' s' ∧ tn1 j s'.heap ∧ (∀ b ∈ fp1, H' b = none) ∧ W1 j m H' := fun s' H' I' nx => by
        obtain ⟨m', hm, w'⟩ := hNx1 H' nx
        have pin' : ∀ b ∈ fp1, ∀ o, s14.heap.get? b = some o → s'.heap.get? b = some o ∧ H' b = none := fun b hb o z => by
          obtain ⟨z1, z2, _⟩ := I'.pin (b, o) (List.mem_append_right _ (List.mem_append_right _ (mem_pinsAt hb z)))
          exact ⟨z1, z2⟩
        refine ⟨m', hm, j + 1, H', I'.unpinned.weak (by rw [← hw15, wipe_length]) (fun i v z => by rw [← hw15] at z; exact (wipe_some z).1), T1.keep _ _ _ st14 fun b hb o z => (pin' b hb o z).1, fun b hb => ?_, w'⟩
        obtain ⟨o, z, _⟩ := T1.obj _ _ st14 b hb
        exact (pin' b hb o z).2
      cases b1 with
      | false =>
        simp only [Bool.false_eq_true,if_false] at q16 ⊢
        exact close1 _ _ I16 q16
      | true =>
        simp only [if_true] at q16 ⊢
        unfold BT1
        have q := he.run _ s16 σ15 H16 _ I16 q16
        rw [hx] at q
        refine thnF q fun x s17 ⟨y, H17, I17, r17, ky, ks, ey, hB, hz, nx⟩ => ?_
        subst ey
        exact addMO_ok I17 hB r17 hz fun s18 I18 => close1 s18 _ I18 nx
  exact start2 loop1 (T1.self Y.A 0 _ _ _ st11 loop1)
/-- as values -/
theorem set_pe {elt tg iter : Expr} {ifs : List Expr} {rest : List Comprehension} {scope : Scope} {own : List (Str × Nat)} {p0 : Pos} {wi : TI} {g : TG} {tt : TT} {BT : BTy} {tb : Addr → L2.St → Hp → (Hp → Prop) → Prop}
    (hc : X.calm = true) (hN : X.N.Nodup) (hi : PI X tg iter wi) (ok : BlkOk X.N X.env.scope scope own) (rule : ScRule X.prog X.w (.SetComp elt (⟨tg, iter, ifs, 0⟩ :: rest) scope p0) tg ifs BT fun _ => True)
    (hg : ∀ (s : Shared) (H : Hp) (C : Addr) (cl : List (Str × Addr)) (fp : List Addr), PG (X.blk s H scope (compEnvC scope cl C X.env) fp) tg g) (ht : ∀ (s : Shared) (H : Hp) (C : Addr) (cl : List (Str × Addr)) (fp : List Addr), PTs (X.blk s H scope (compEnvC scope cl C X.env) fp) ifs tt)
    (hb : ∀ (s : Shared) (H : Hp) (C : Addr) (cl : List (Str × Addr)) (fp : List Addr), BodyOk (X.blk s H scope (compEnvC scope cl C X.env) fp) BT (own.map (·.2)) tb) (hs : ∀ x, foldedSetIterable iter X.env x = pure x := by intro _; rfl) :
    PE X (.SetComp elt (⟨tg, iter, ifs, 0⟩ :: rest) scope p0) (tSet X.prog X.w wi g tt tb (own.map (·.2))) := by
  refine ⟨fun pins s σ H Q I h => ?_⟩
  rw [PpSet.eval_SetComp]
  refine set_core hc hN I hi ok rule (fun _ => True.intro) hg ht hb hs h fun B C s' m H' I' q hn f => ⟨m, hn, fun h'' sb => ?_⟩
  obtain ⟨f0, f1, f2, f3, f4, f5⟩ := f
  exact ⟨.ref B, H', I'.turned (t' := s'.toks) (fun b o hb' e => (sb.2 b hb').trans e) f0 f1 f3 f4 f5, rfl, q⟩
end
end Dw
set_option Elab.async false
set_option linter.all false
set_option maxRecDepth 100000
set_option maxHeartbeats 4000000
/-! DwD: over data: sorted({..}), sorted(set(..)), len(set(..)). -/
namespace Dw
open PySem PySem.Spec PyProof.Rows L2
/-! ### sorted, each once -/
section
variable {α : Type} (lt : α → α → Bool)
def usIns (x : α) : List α → List α
  | [] => [x]
  | y :: l => if lt x y = true then x :: y :: l else if lt y x = true then y :: usIns x l else y :: l
def usort : List α → List α
  | [] => []
  | x :: l => usIns lt x (usort l)
variable {lt}
/-- a strict order -/
structure LtOk (lt : α → α → Bool) : Prop where
  irr : ∀ a, lt a a = false
  tr : ∀ a b c, lt a b = true → lt b c = true → lt a c = true
  tri : ∀ a b, lt a b = false → lt b a = false → a = b
theorem mem_usIns (o : LtOk lt) {x z : α} : ∀ {l : List α}, z ∈ usIns lt x l ↔ z = x ∨ z ∈ l
  | [] => by simp [usIns]
  | y :: l => by
    rw [usIns]
    split
    · simp [List.mem_cons]
    · split
      · rw [List.mem_cons, mem_usIns o (l := l), List.mem_cons]
        exact ⟨fun h => h.elim (fun e => .inr (.inl e)) fun h => h.elim .inl fun h => .inr (.inr h), fun h => h.elim (fun e => .inr (.inl e)) fun h => h.elim .inl fun h => .inr (.inr h)⟩
      · rename_i h1 h2
        have := o.tri x y (by simpa using h1) (by simpa using h2)
        subst this
        simp
theorem usIns_asc (o : LtOk lt) {x : α} : ∀ {l : List α}, l.Pairwise (fun a b => lt a b = true) → (usIns lt x l).Pairwise fun a b => lt a b = true
  | [], _ => by simp [usIns]
  | y :: l, p => by
    obtain ⟨p1, p2⟩ := List.pairwise_cons.mp p
    rw [usIns]
    split
    · rename_i h
      exact List.pairwise_cons.mpr ⟨fun z hz => by
        rcases List.mem_cons.mp hz with rfl | hz
        · exact h
        · exact o.tr _ _ _ h (p1 z hz), p⟩
    · split
      · rename_i h1 h2
        exact List.pairwise_cons.mpr ⟨fun z hz => by
          rcases (mem_usIns o).mp hz with rfl | hz
          · exact h2
          · exact p1 z hz, usIns_asc o p2⟩
      · exact p
theorem mem_usort (o : LtOk lt) {z : α} : ∀ {l : List α}, z ∈ usort lt l ↔ z ∈ l
  | [] => by simp [usort]
  | x :: l => by rw [usort, mem_usIns o, mem_usort o, List.mem_cons]
theorem usort_asc (o : LtOk lt) : ∀ l : List α, (usort lt l).Pairwise fun a b => lt a b = true
  | [] => List.Pairwise.nil
  | x :: l => usIns_asc o (usort_asc o l)
theorem asc_uniq (o : LtOk lt) : ∀ {a b : List α}, a.Pairwise (fun a b => lt a b = true) → b.Pairwise (fun a b => lt a b = true) → (∀ z, z ∈ a ↔ z ∈ b) → a = b
  | [], [], _, _, _ => rfl
  | [], y :: b, _, _, h => by have := (h y).mpr List.mem_cons_self; cases this
  | x :: a, [], _, _, h => by have := (h x).mp List.mem_cons_self; cases this
  | x :: a, y :: b, p, q, h => by
    obtain ⟨p1, p2⟩ := List.pairwise_cons.mp p
    obtain ⟨q1, q2⟩ := List.pairwise_cons.mp q
    have exy : x = y := by
      rcases List.mem_cons.mp ((h x).mp List.mem_cons_self) with e | hx
      · exact e
      · rcases List.mem_cons.mp ((h y).mpr List.mem_cons_self) with e | hy
        · exact e.symm
        · have := o.tr _ _ _ (q1 x hx) (p1 y hy)
          rw [o.irr] at this; cases this
    subst exy
    rw [asc_uniq o p2 q2 fun z => ?_]
    have hz := h z
    rw [List.mem_cons, List.mem_cons] at hz
    refine ⟨fun z1 => (hz.mp (.inr z1)).elim (fun e => ?_) id, fun z1 => (hz.mpr (.inr z1)).elim (fun e => ?_) id⟩
    · subst e; have := p1 z z1; rw [o.irr] at this; cases this
    · subst e; have := q1 z z1; rw [o.irr] at this; cases this
theorem usort_congr (o : LtOk lt) {a b : List α} (h : ∀ z, z ∈ a ↔ z ∈ b) : usort lt a = usort lt b :=
  asc_uniq o (usort_asc o a) (usort_asc o b) fun z => by rw [mem_usort o, mem_usort o]; exact h z
theorem usort_of_asc (o : LtOk lt) {a b : List α} (p : a.Pairwise fun a b => lt a b = true) (h : ∀ z, z ∈ a ↔ z ∈ b) : a = usort lt b :=
  asc_uniq o p (usort_asc o b) fun z => by rw [mem_usort o]; exact h z
theorem asc_nodup (o : LtOk lt) {a : List α} (p : a.Pairwise fun a b => lt a b = true) : a.Nodup := p.imp fun {x y} h e => by subst e; rw [o.irr] at h; cases h
end
def ltI (a b : Int) : Bool := decide (a < b)
theorem okI : LtOk ltI := ⟨fun a => by simp [ltI], fun a b c => by simp only [ltI,decide_eq_true_eq]; omega,fun a b => by simp only [ltI,decide_eq_false_iff_not]; omega⟩
def ltS (a b : Str) : Bool := decide (a.cps.toList < b.cps.toList)
theorem okS : LtOk ltS where
  irr a := by simp only [ltS,decide_eq_false_iff_not]; exact List.lt_irrefl _
  tr a b c h1 h2 := by simp only [ltS,decide_eq_true_eq] at h1 h2 ⊢; exact List.lt_trans h1 h2
  tri a b h1 h2 := by
    simp only [ltS,decide_eq_false_iff_not] at h1 h2
    exact PySem.W.str_of_cps (List.le_antisymm (List.not_lt.mp h2) (List.not_lt.mp h1))
abbrev usI (l : List Int) : List Int := usort ltI l
abbrev usS (l : List Str) : List Str := usort ltS l
theorem usI_of {ns is : List Int} (p : ns.Pairwise (· < ·)) (h : ∀ k, k ∈ ns ↔ k ∈ is) : ns = usI is := usort_of_asc okI (p.imp fun h => by simpa [ltI] using h) h
theorem usS_of {ns is : List Str} (p : ns.Pairwise strLt) (h : ∀ k, k ∈ ns ↔ k ∈ is) : ns = usS is := usort_of_asc okS (p.imp fun h => by simpa [ltS, strLt] using h) h
def setK (acc : List Key) : List Key := acc.foldl addK []
theorem mem_setK {acc : List Key} {k : Key} : k ∈ setK acc ↔ k ∈ acc := by
  unfold setK; rw [mem_foldl]; simp
theorem setK_snoc (acc : List Key) (k : Key) : setK (acc ++ [k]) = addK (setK acc) k := by unfold setK; rw [List.foldl_append]; rfl
theorem setK_len (acc : List Key) : (setK acc).length ≤ acc.length := by have := foldl_len acc []; simpa [setK] using this
theorem setK_inl (is : List Int) : ∃ js : List Int, setK (is.map .inl) = js.map .inl ∧ ∀ k, k ∈ js ↔ k ∈ is := by
  have key : ∀ k ∈ setK (is.map .inl), ∃ i, k = Sum.inl i := fun k hk => by
    obtain ⟨i, _, e⟩ := List.mem_map.mp (mem_setK.mp hk); exact ⟨i, e.symm⟩
  obtain ⟨js, e⟩ : ∃ js : List Int, setK (is.map .inl) = js.map .inl := by
    generalize setK (is.map .inl) = l at key
    induction l with
    | nil => exact ⟨[], rfl⟩
    | cons k l ih =>
      obtain ⟨i, rfl⟩ := key k List.mem_cons_self
      obtain ⟨js, rfl⟩ := ih fun j hj => key j (List.mem_cons_of_mem _ hj)
      exact ⟨i :: js, rfl⟩
  refine ⟨js, e, fun k => ?_⟩
  have := mem_setK (acc := is.map .inl) (k := .inl k)
  rw [e] at this
  simpa using this
theorem setK_inr (is : List Str) : ∃ js : List Str, setK (is.map .inr) = js.map .inr ∧ ∀ k, k ∈ js ↔ k ∈ is := by
  have key : ∀ k ∈ setK (is.map .inr), ∃ i, k = Sum.inr i := fun k hk => by
    obtain ⟨i, _, e⟩ := List.mem_map.mp (mem_setK.mp hk); exact ⟨i, e.symm⟩
  obtain ⟨js, e⟩ : ∃ js : List Str, setK (is.map .inr) = js.map .inr := by
    generalize setK (is.map .inr) = l at key
    induction l with
    | nil => exact ⟨[], rfl⟩
    | cons k l ih =>
      obtain ⟨i, rfl⟩ := key k List.mem_cons_self
      obtain ⟨js, rfl⟩ := ih fun j hj => key j (List.mem_cons_of_mem _ hj)
      exact ⟨i :: js, rfl⟩
  refine ⟨js, e, fun k => ?_⟩
  have := mem_setK (acc := is.map .inr) (k := .inr k)
  rw [e] at this
  simpa using this
/-! ### the readings -/
def kD : Key → D
  | .inl i => .int i
  | .inr x => .str x
theorem kD_rep {K : PySem.W.Frag} {h : Hp} {k : Key} {v : V} (r : Rep K h (kD k) v) : v = kV k := by cases k <;> exact r
abbrev WB := Env' → Mem → List Key → (Mem → List Key → Prop) → Prop
def wScL (wg : WG) (wt : WT) (wb : WB) (env : Env') : List D → Mem → List Key → (List Key → Mem → Prop) → Prop
  | [], M, acc, Q => Q acc M
  | d :: ds, M, acc, Q => ∃ N : Mem → List Key → Prop, (∀ m a, N m a → wScL wg wt wb env ds m a Q) ∧ wg (.d d) env M fun env1 M1 => wt env1 M1 fun b M2 => if b = true then wb env1 M2 acc N else N M2 acc
def wb1 (we : WE) : WB := fun env M acc N => we env M fun y M3 => ∃ key, y = .d (kD key) ∧ acc.length < 4000 ∧ N M3 (acc ++ [key])
def wb2 (wi1 : WI) (wg1 : WG) (wt1 : WT) (we : WE) (vs1 : List Nat) : WB := fun env M acc N => wi1 env M fun ds1 M3 => wScL wg1 wt1 (wb1 we) (wipeE env vs1) ds1 M3 acc fun acc' M4 => N M4 acc'
/-- what a sorted set gives -/
def SrtQ (acc : List Key) (Q : D → Prop) : Prop := (∃ is : List Int, acc = is.map .inl ∧ Q (.lst ((usI is).map .int))) ∨ ∃ ss : List Str, acc = ss.map .inr ∧ Q (.lst ((usS ss).map .str))
def wSortSc (wi : WI) (wg : WG) (wt : WT) (wb : WB) (vs : List Nat) : WE := fun env M Q => wi env M fun ds M1 => wScL wg wt wb (wipeE env vs) ds M1 [] fun acc M2 => SrtQ acc fun d => Q (.d d) M2
section
variable {J : Bs} {K : PySem.W.Frag} {P : Program} {w : World}
/-- while the set at B is hidden -/
def DnB (J : Bs) (K : PySem.W.Frag) (P : Program) (w : World) (tb : Addr → L2.St → Hp → (Hp → Prop) → Prop) (wb : WB) : Prop :=
  ∀ env M acc N, wb env M acc N → ∀ (S A : List Addr) (σ : L2.St) (H : Hp) (B : Addr) (Nx : Hp → Prop), Sto K (B :: S) A H M → EnvOk J K (B :: S) A H env σ → B ∉ J.S0 → B ∉ S → H B = some (SetMO P w B (setK acc)) →
    (∀ A' H' M' acc', A <+: A' → Same (view (B :: S) A H) (view (B :: S) A' H') → (∀ a ∈ S, H' a = H a) → Sto K (B :: S) A' H' M' → H' B = some (SetMO P w B (setK acc')) → N M' acc' → Nx H') → tb B σ H Nx
theorem view_hid {S A : List Addr} {H : Hp} {B : Addr} {o : HO} : view (B :: S) A (upd H B o) = view (B :: S) A H := by
  funext b
  unfold view off
  by_cases e : b ∈ B :: S ++ A
  · rw [if_pos e, if_pos e]
  · rw [if_neg e, if_neg e, upd_ne (fun z => e (by rw [z]; exact List.mem_cons_self))]
theorem sto_hid {S A : List Addr} {H : Hp} {M : Mem} {B : Addr} {o : HO} (s : Sto K (B :: S) A H M) : Sto K (B :: S) A (upd H B o) M := by
  have nA : B ∉ A := fun z => s.dj B z List.mem_cons_self
  refine ⟨s.len, s.nd, s.dj, fun a ha => ?_, fun j mo a h1 h2 => ?_⟩
  · by_cases e : a = B
    · subst e; exact ⟨_, upd_same⟩
    · rw [upd_ne e]; exact s.trk a ha
  · exact (s.mem j mo a h1 h2).to (upd_ne (fun (z : a = B) => nA (by rw [← z]; exact List.mem_of_getElem? h2))) (by rw [view_hid]; exact Same.refl _)
theorem dnb1 {te : TE} {we : WE} (he : Dn J K te we) : DnB J K P w (tb1 P w te) (wb1 we) := by
  intro env M acc N hw S A σ H B Nx st en nB nS hB k
  refine he _ _ _ hw (B :: S) A σ H _ st en fun y H4 r M4 A4 p4 s4 q4 ⟨key, e, hz, hn⟩ => ?_
  subst e
  refine ⟨key, setK acc, kD_rep q4, (p4.hid B List.mem_cons_self).trans hB, by have := setK_len acc; unfold scanBound; omega, ?_⟩
  refine k A4 _ M4 (acc ++ [key]) p4.pre (by rw [view_hid]; exact p4.view) (fun a ha => ?_) (sto_hid s4) (by rw [setK_snoc]; exact upd_same) hn
  rw [upd_ne (fun (z : a = B) => nS (by rw [← z]; exact ha))]; exact p4.hid a (List.mem_cons_of_mem _ ha)
/-- a loop while the set at B is hidden -/
theorem dn_sl {g : TG} {tt : TT} {tb : Addr → L2.St → Hp → (Hp → Prop) → Prop} {wg : WG} {wt : WT} {wb : WB} {vs ss : List Nat} {ds : List D} (hg : DnG J K ss g wg) (ht : DnT J K tt wt) (hb : DnB J K P w tb wb) (hs : ∀ i ∈ ss, i ∈ vs)
    {Jt : It} {Sw A0 S A1 : List Addr} {H0 H1 : Hp} {B : Addr} {M1 : Mem} {acc0 : List Key} {σ : L2.St} {env : Env'} {Qd : List Key → Mem → Prop} {Fin : Hp → Prop} (wlk : Wlk K Sw A0 H0 Jt ds) (v0 : Same (view Sw A0 H0) (view (B :: S) A1 H1))
    (st : Sto K (B :: S) A1 H1 M1) (hB : H1 B = some (SetMO P w B (setK acc0))) (en : EnvOk J K (B :: S) A1 H1 env σ) (nB : B ∉ J.S0) (nS : B ∉ S) (hw : wScL wg wt wb (wipeE env vs) ds M1 acc0 Qd)
    (fin : ∀ A' H' M' acc', A1 <+: A' → Same (view (B :: S) A1 H1) (view (B :: S) A' H') → (∀ a ∈ S, H' a = H1 a) → Sto K (B :: S) A' H' M' → H' B = some (SetMO P w B (setK acc')) → Qd acc' M' → Fin H') :
    ∃ W : Nat → Nat → Hp → Prop, (∃ m, W 0 m H1) ∧ ∀ i m H, W i m H → (Jt.stop i H ∧ Fin H) ∨ (Jt.go i H ∧ ∃ Nx : Hp → Prop, (∀ H', Nx H' → ∃ m', m' < m ∧ W (i + 1) m' H') ∧ ∀ x H', Jt.yld i H x H' → g x (wipe σ vs) H' fun σ2 H2 =>
      wipe σ2 vs = wipe σ vs ∧ tt σ2 H2 fun b H3 => if b = true then tb B σ2 H3 Nx else Nx H3) := by
  refine ⟨fun i m H2 => m = ds.length - i ∧ i ≤ ds.length ∧ ∃ M2 A2 acc, A1 <+: A2 ∧ Same (view (B :: S) A1 H1) (view (B :: S) A2 H2) ∧ (∀ a ∈ S, H2 a = H1 a) ∧ Sto K (B :: S) A2 H2 M2 ∧ H2 B = some (SetMO P w B (setK acc)) ∧
      wScL wg wt wb (wipeE env vs) (ds.drop i) M2 acc Qd, ⟨ds.length, by simp, Nat.zero_le _, M1, A1, acc0, List.prefix_refl _, Same.refl _, fun _ _ => rfl, st, hB, by simpa using hw⟩, ?_⟩
  rintro i m H2 ⟨rfl, hil, M2, A2, acc, pre, vw, hid, st2, hB2, hw2⟩
  have hidJ : ∀ a ∈ J.S0, H2 a = H1 a := fun a ha => by
    rcases List.mem_cons.mp (en.j.sub a ha) with e | z
    · exact absurd (e ▸ ha) nB
    · exact hid a z
  obtain ⟨wk1, wk2⟩ := wlk (B :: S) A2 H2 (v0.trans vw) st2.trk'
  by_cases hlt : i < ds.length
  · have hd : ds[i]? = some ds[i] := List.getElem?_eq_getElem hlt
    obtain ⟨go, yl⟩ := wk1 i _ hd
    refine .inr ⟨go, fun H' => i + 1 ≤ ds.length ∧ ∃ M2 A2 acc, A1 <+: A2 ∧ Same (view (B :: S) A1 H1) (view (B :: S) A2 H') ∧ (∀ a ∈ S, H' a = H1 a) ∧ Sto K (B :: S) A2 H' M2 ∧ H' B = some (SetMO P w B (setK acc)) ∧
      wScL wg wt wb (wipeE env vs) (ds.drop (i + 1)) M2 acc Qd, fun H' q => ⟨ds.length - (i + 1), by omega, rfl, q⟩, fun x H3 yd => ?_⟩
    obtain ⟨sm, rx⟩ := yl x H3 yd
    have st3 := st2.grow sm
    have p3 := st2.post sm
    rw [List.drop_eq_getElem_cons hlt] at hw2
    obtain ⟨N, hN, hw2⟩ := hw2
    have hid3 : ∀ a ∈ B :: S, H3 a = H2 a := p3.hid
    have en3 : EnvOk J K (B :: S) A2 H3 (wipeE env vs) (wipe σ vs) := (en.wipe vs).to2 pre (vw.trans p3.view) (fun a ha => en.j.sub a ha) (fun a ha => (hid3 a (en.j.sub a ha)).trans (hidJ a ha))
    refine hg _ _ _ _ hw2 (B :: S) A2 (wipe σ vs) H3 x _ st3 en3 rx fun σ4 H4 env4 M4 A4 p4 s4 e4 wp hw4 => ?_
    have wp' : wipe σ4 vs = wipe σ vs := by rw [wp vs hs]; exact wipe_wipe vs vs fun i hi => hi
    refine ⟨wp', ?_⟩
    refine ht _ _ _ hw4 (B :: S) A4 σ4 H4 _ s4 e4 fun b H5 M5 A5 p5 s5 hw5 => ?_
    have pp := (p3.trans p4).trans p5
    have hB5 : H5 B = some (SetMO P w B (setK acc)) := (pp.hid B List.mem_cons_self).trans hB2
    have hid5 : ∀ a ∈ S, H5 a = H1 a := fun a ha => (pp.hid a (List.mem_cons_of_mem _ ha)).trans (hid a ha)
    cases b with
    | false => exact ⟨hlt, M5, A5, acc, pre.trans pp.pre, vw.trans pp.view, hid5, s5, hB5, hN _ _ hw5⟩
    | true =>
      refine hb _ _ _ _ hw5 S A5 σ4 H5 B _ s5 (e4.mono p5) nB nS hB5 fun A' H' M' acc' q1 q2 q3 q4 q5 q6 => ?_
      exact ⟨hlt, M', A', acc', (pre.trans pp.pre).trans q1, (vw.trans pp.view).trans q2, fun a ha => (q3 a ha).trans (hid5 a ha), q4, q5, hN _ _ q6⟩
  · have e : i = ds.length := by omega
    subst e
    rw [List.drop_length] at hw2
    exact .inl ⟨wk2 _ (Nat.le_refl _), fin A2 H2 M2 acc pre vw hid st2 hB2 hw2⟩
theorem dnb2 {wi1 : TI} {g1 : TG} {tt1 : TT} {te : TE} {vi1 : WI} {wg1 : WG} {wt1 : WT} {we : WE} {vs1 ss1 : List Nat} (hi1 : DnI J K wi1 vi1) (hg1 : DnG J K ss1 g1 wg1) (ht1 : DnT J K tt1 wt1) (he : Dn J K te we) (hs1 : ∀ i ∈ ss1, i ∈ vs1) :
    DnB J K P w (tb2 P w wi1 g1 tt1 te vs1) (wb2 vi1 wg1 wt1 we vs1) := by
  intro env M acc N hw S A σ H B Nx st en nB nS hB k
  refine hi1 env M _ hw (B :: S) A σ H _ st en fun J1 H4 ds1 M4 A4 p4 s4 wlk hw4 => ?_
  exact dn_sl hg1 ht1 (dnb1 he) hs1 wlk (Same.refl _) s4 ((p4.hid B List.mem_cons_self).trans hB) (en.mono p4) nB nS hw4 fun A' H' M' acc' q1 q2 q3 q4 q5 q6 =>
    k A' H' M' acc' (p4.pre.trans q1) (p4.view.trans q2) (fun a ha => (q3 a ha).trans (p4.hid a (List.mem_cons_of_mem _ ha))) q4 q5 q6
theorem sto_drop {S A : List Addr} {H : Hp} {M : Mem} {B : Addr} (s : Sto K (B :: S) A H M) : Sto K S A H M := by
  have sb : Same (view (B :: S) A H) (view S A H) := off_less fun a ha => List.mem_cons_of_mem _ ha
  exact ⟨s.len, s.nd, fun a ha z => s.dj a ha (List.mem_cons_of_mem _ z), fun a ha => s.trk a (List.mem_cons_of_mem _ ha), fun j mo a h1 h2 => (s.mem j mo a h1 h2).to rfl sb⟩
/-- sorted of the set that a comprehension makes -/
theorem dn_sortSc {ti : TI} {g : TG} {tt : TT} {tb : Addr → L2.St → Hp → (Hp → Prop) → Prop} {wi : WI} {wg : WG} {wt : WT} {wb : WB} {vs ss : List Nat} {tr : TE} (hi : DnI J K ti wi) (hg : DnG J K ss g wg) (ht : DnT J K tt wt) (hb : DnB J K P w tb wb) (hs : ∀ i ∈ ss, i ∈ vs)
    (htr : ∀ σ H Q, tSet P w ti g tt tb vs σ H (fun v H1 => rSortM P w [v] H1 Q) → tr σ H Q) : Dn J K tr (wSortSc wi wg wt wb vs) := by
  intro env M Q hw S A σ H R st en k
  refine htr _ _ _ ?_
  refine hi env M _ hw S A σ H _ st en fun Jt H1 ds M1 A1 p1 s1 wlk hw1 => ?_
  intro B hBn
  have fr := s1.fresh hBn
  have nS : B ∉ S := fun z => fr (List.mem_append_left _ z)
  have nA : B ∉ A1 := fun z => fr (List.mem_append_right _ z)
  have v0 : Same (view S A1 H1) (view (B :: S) A1 (upd H1 B (SetMO P w B []))) := fun b x e => by
    obtain ⟨n, q⟩ := off_some e
    have hb : b ≠ B := ne_of_none q hBn
    refine off_of (fun z => ?_) (by rw [upd_ne hb]; exact q)
    rcases List.mem_cons.mp z with z | z
    · exact hb z
    · exact n z
  have hid0 : ∀ a ∈ S, upd H1 B (SetMO P w B []) a = H1 a := fun a ha => upd_ne (fun (z : a = B) => nS (by rw [← z]; exact ha))
  have st0 : Sto K (B :: S) A1 (upd H1 B (SetMO P w B [])) M1 := by
    refine ⟨s1.len, s1.nd, fun a ha z => ?_, fun a ha => ?_, fun i mo a h1 h2 => ?_⟩
    · rcases List.mem_cons.mp z with z | z
      · exact nA (z ▸ ha)
      · exact s1.dj a ha z
    · rcases List.mem_cons.mp ha with rfl | ha
      · exact ⟨_, upd_same⟩
      · obtain ⟨o, e⟩ := s1.trk a ha
        exact ⟨o, by rw [upd_ne (ne_of_none e hBn)]; exact e⟩
    · exact (s1.mem i mo a h1 h2).to (upd_ne (fun (z : a = B) => nA (by rw [← z]; exact List.mem_of_getElem? h2))) v0
  have en1 := en.mono p1
  have nB : B ∉ J.S0 := fun z => nS (en.j.sub B z)
  refine dn_sl hg ht hb hs wlk v0 st0 (acc0 := []) upd_same (en1.to (List.prefix_refl _) v0 (fun a ha => List.mem_cons_of_mem _ ha) hid0) nB nS hw1 fun A' H' M' acc' q1 q2 q3 q4 q5 q6 => ?_
  have s' := sto_drop q4
  have sb : Same (view (B :: S) A' H') (view S A' H') := off_less fun a ha => List.mem_cons_of_mem _ ha
  have post : Post S A1 H1 A' H' := ⟨q1, (v0.trans q2).trans sb, fun a ha => (q3 a ha).trans (hid0 a ha)⟩
  rcases q6 with ⟨is, rfl, q⟩ | ⟨is, rfl, q⟩
  · obtain ⟨js, e, hm⟩ := setK_inl is
    rw [e] at q5
    refine ⟨B, js.map .inl, rfl, q5, .inl ⟨js, rfl, fun p ns hp pn asc => ?_⟩⟩
    have en' : ns = usI is := usI_of asc fun k => by rw [pn.mem_iff]; exact hm k
    subst en'
    have sm := same_upd (o := .lst ((usI is).map V.int)) hp
    refine k (.ref p) _ (.d (.lst ((usI is).map .int))) M' A' ((p1.trans post).trans (s'.post sm)) (s'.grow sm) ⟨p, _, rfl, .inl (.inl (view_at s' hp)), ?_⟩ q
    exact Reps.of_ints _
  · obtain ⟨js, e, hm⟩ := setK_inr is
    rw [e] at q5
    refine ⟨B, js.map .inr, rfl, q5, .inr ⟨js, rfl, fun p ns hp pn asc => ?_⟩⟩
    have en' : ns = usS is := usS_of asc fun k => by rw [pn.mem_iff]; exact hm k
    subst en'
    have sm := same_upd (o := .lst ((usS is).map V.str)) hp
    refine k (.ref p) _ (.d (.lst ((usS is).map .str))) M' A' ((p1.trans post).trans (s'.post sm)) (s'.grow sm) ⟨p, _, rfl, .inl (.inl (view_at s' hp)), ?_⟩ q
    exact Reps.of_strs _
/-! ### sorted(set(xs)), len(set(xs)) -/
def fSSet (ds : List D) (z : D) : Prop := match ds with
  | [x] => (∃ is : List Int, x = .lst (is.map .int) ∧ is.length < 4000 ∧ z = .lst ((usI is).map .int)) ∨ ∃ ss : List Str, x = .lst (ss.map .str) ∧ ss.length < 4000 ∧ z = .lst ((usS ss).map .str)
  | _ => False
theorem fSSet_i {is : List Int} (h : is.length < 4000) : fSSet [.lst (is.map .int)] (.lst ((usI is).map .int)) := .inl ⟨is, rfl, h, rfl⟩
theorem fSSet_s {is : List Str} (h : is.length < 4000) : fSSet [.lst (is.map .str)] (.lst ((usS is).map .str)) := .inr ⟨is, rfl, h, rfl⟩
theorem perm_of_nodup {α : Type} [DecidableEq α] {a b : List α} (ha : a.Nodup) (hb : b.Nodup) (h : ∀ z, z ∈ a ↔ z ∈ b) : a.Perm b := (List.perm_ext_iff_of_nodup ha hb).mpr h
end

section
variable {J : Bs} {X : Cx} {elt tg iter t1 i1 : Expr} {ifs ifs1 : List Expr} {we : WE} {wt wt1 : WT} {wi wi1 : WI} {wg wg1 : WG} {ss ss1 vs1 : List Nat} {p pos p0 q : Pos} {scope : Scope} {own : List (Str × Nat)} {ws : WA} {e : Expr}
theorem qe_sortSc (hu : X.A.units + 70 < cLine) (hgs : Gl X "sorted") (hms : X.mg "sorted" = none) (hc : X.calm = true) (hN : X.N.Nodup) (hi : QI J X tg iter wi) (ok : BlkOk X.N X.env.scope scope own) (hss : ∀ i ∈ ss, i ∈ own.map (·.2))
    (hg : ∀ (s : Shared) (H : Hp) (C : Addr) (cl : List (Str × Addr)) (fp : List Addr), QG J (X.blk s H scope (compEnvC scope cl C X.env) fp) ss tg wg)
    (ht : ∀ (s : Shared) (H : Hp) (C : Addr) (cl : List (Str × Addr)) (fp : List Addr), QTs J (X.blk s H scope (compEnvC scope cl C X.env) fp) ifs wt)
    (he : ∀ (s : Shared) (H : Hp) (C : Addr) (cl : List (Str × Addr)) (fp : List Addr), QE J (X.blk s H scope (compEnvC scope cl C X.env) fp) elt we) (hs : ∀ x, foldedSetIterable iter X.env x = pure x := by intro _; rfl) :
    QE J X (.Call (.Name "sorted" p) [.SetComp elt [⟨tg, iter, ifs, 0⟩] scope p0] [] pos) (wSortSc wi wg wt (wb1 we) (own.map (·.2))) := by
  obtain ⟨ti, pi, di⟩ := hi
  have pe := set_pe (X := X) (g := canG J X.K ss wg) (tt := canT J X.K wt) (tb := tb1 X.prog X.w (canE J X.K we)) hc hN pi ok (rule1 X.prog X.w elt tg iter ifs scope p0) (fun s H C cl fp => (hg s H C cl fp).pg) (fun s H C cl fp => (ht s H C cl fp).pts)
    (fun s H C cl fp => body1 (te := canE J X.K we) (he s H C cl fp).pe rfl) hs
  refine ⟨_, pe_callB (cr_sortM hc hu) hgs hms boot_sorted (pa_cons pe pa_nil), ?_⟩
  exact dn_sortSc di dng_can dnt_can (dnb1 dn_can) hss fun σ H Q h => h
theorem qe_sortSc2 (hu : X.A.units + 70 < cLine) (hgs : Gl X "sorted") (hms : X.mg "sorted" = none) (hc : X.calm = true) (hN : X.N.Nodup) (hi : QI J X tg iter wi) (ok : BlkOk X.N X.env.scope scope own) (hss : ∀ i ∈ ss, i ∈ own.map (·.2)) (hv : ∀ i ∈ vs1, i ∈ own.map (·.2)) (hss1 : ∀ i ∈ ss1, i ∈ vs1)
    (hg : ∀ (s : Shared) (H : Hp) (C : Addr) (cl : List (Str × Addr)) (fp : List Addr), QG J (X.blk s H scope (compEnvC scope cl C X.env) fp) ss tg wg)
    (ht : ∀ (s : Shared) (H : Hp) (C : Addr) (cl : List (Str × Addr)) (fp : List Addr), QTs J (X.blk s H scope (compEnvC scope cl C X.env) fp) ifs wt)
    (hi1 : ∀ (s : Shared) (H : Hp) (C : Addr) (cl : List (Str × Addr)) (fp : List Addr), QI J (X.blk s H scope (compEnvC scope cl C X.env) fp) t1 i1 wi1)
    (hg1 : ∀ (s : Shared) (H : Hp) (C : Addr) (cl : List (Str × Addr)) (fp : List Addr), QG J (X.blk s H scope (compEnvC scope cl C X.env) fp) ss1 t1 wg1)
    (ht1 : ∀ (s : Shared) (H : Hp) (C : Addr) (cl : List (Str × Addr)) (fp : List Addr), QTs J (X.blk s H scope (compEnvC scope cl C X.env) fp) ifs1 wt1)
    (he : ∀ (s : Shared) (H : Hp) (C : Addr) (cl : List (Str × Addr)) (fp : List Addr), QE J (X.blk s H scope (compEnvC scope cl C X.env) fp) elt we) (hs : ∀ x, foldedSetIterable iter X.env x = pure x := by intro _; rfl) (hs1 : ∀ v x, foldedSetIterable i1 v x = pure x := by intro _ _; rfl) :
    QE J X (.Call (.Name "sorted" p) [.SetComp elt [⟨tg, iter, ifs, 0⟩, ⟨t1, i1, ifs1, 0⟩] scope p0] [] pos) (wSortSc wi wg wt (wb2 wi1 wg1 wt1 we vs1) (own.map (·.2))) := by
  obtain ⟨ti, pi, di⟩ := hi
  have pe := set_pe (X := X) (g := canG J X.K ss wg) (tt := canT J X.K wt) (tb := tb2 X.prog X.w (canI J X.K wi1) (canG J X.K ss1 wg1) (canT J X.K wt1) (canE J X.K we) vs1) hc hN pi ok (rule2 (P := X.prog) (w := X.w) (elt := elt) (t0 := tg) (i0 := iter) (t1 := t1) (i1 := i1) (f0 := ifs) (f1 := ifs1) (scope := scope) (p0 := p0) hs1)
    (fun s H C cl fp => (hg s H C cl fp).pg) (fun s H C cl fp => (ht s H C cl fp).pts) (fun s H C cl fp => body2 hc (QI.pi (hi1 s H C cl fp)) (hg1 s H C cl fp).pg (ht1 s H C cl fp).pts (he s H C cl fp).pe rfl hv) hs
  refine ⟨_, pe_callB (cr_sortM hc hu) hgs hms boot_sorted (pa_cons pe pa_nil), ?_⟩
  exact dn_sortSc di dng_can dnt_can (dnb2 dni_can dng_can dnt_can dn_can hss1) hss fun σ H Q h => h
theorem cd_sset {K : PySem.W.Frag} {P : Program} {w : World} : CallD K (fun xs H Q => rSetM K P w xs H fun v H1 => rSortM P w [v] H1 Q) fSSet := by
  intro S A M H ds z vs R st q e k
  obtain ⟨x, rfl, e⟩ := d1 e (fun e => e) (by intro x y r e; cases x <;> exact e)
  obtain ⟨v, rfl, q1⟩ := q.one
  clear q
  have sk : ∀ js : List Key, firstK js js.length = setK js := fun js => by unfold firstK setK; rw [List.take_length]
  rcases e with ⟨is, rfl, hz, rfl⟩ | ⟨is, rfl, hz, rfl⟩
  · obtain ⟨a, us, rfl, h1, h2⟩ := q1
    have hu := h2.ints
    subst hu
    refine ⟨a, is.map .inl, rfl, by rw [List.map_map]; exact h1, by simpa using hz, fun B hB => ?_⟩
    rw [sk]
    obtain ⟨js, ej, hm⟩ := setK_inl is
    rw [ej]
    refine ⟨B, js.map .inl, rfl, upd_same, .inl ⟨js, rfl, fun p ns hp pn asc => ?_⟩⟩
    have en : ns = usI is := usI_of asc fun i => by rw [pn.mem_iff]; exact hm i
    subst en
    have sm1 := same_upd (o := SetMO P w B (js.map .inl)) hB
    have s1 := st.grow sm1
    have sm2 := same_upd (o := .lst ((usI is).map V.int)) hp
    exact k _ _ (sm1.trans sm2) ⟨p, _, rfl, .inl (.inl (view_at s1 hp)), Reps.of_ints _⟩
  · obtain ⟨a, us, rfl, h1, h2⟩ := q1
    have hu := h2.strs
    subst hu
    refine ⟨a, is.map .inr, rfl, by rw [List.map_map]; exact h1, by simpa using hz, fun B hB => ?_⟩
    rw [sk]
    obtain ⟨js, ej, hm⟩ := setK_inr is
    rw [ej]
    refine ⟨B, js.map .inr, rfl, upd_same, .inr ⟨js, rfl, fun p ns hp pn asc => ?_⟩⟩
    have en : ns = usS is := usS_of asc fun i => by rw [pn.mem_iff]; exact hm i
    subst en
    have sm1 := same_upd (o := SetMO P w B (js.map .inr)) hB
    have s1 := st.grow sm1
    have sm2 := same_upd (o := .lst ((usS is).map V.str)) hp
    exact k _ _ (sm1.trans sm2) ⟨p, _, rfl, .inl (.inl (view_at s1 hp)), Reps.of_strs _⟩
theorem qe_sortSet (hu : X.A.units + 70 < cLine) (hc : X.calm = true) (hgs : Gl X "sorted") (hms : X.mg "sorted" = none) (hgt : Gl X "set") (hmt : X.mg "set" = none) (ha : QA J X [e] ws) (he : starEach [e] X.env = (false, eval e X.env) :: starEach [] X.env := by rfl) :
    QE J X (.Call (.Name "sorted" p) [.Call (.Name "set" p0) [e] [] q] [] pos) (wCB fSSet ws) := by
  obtain ⟨ta, pa, da⟩ := ha
  refine ⟨_, pe_callB (cr_sortM hc hu) hgs hms boot_sorted (pa_cons (pe_callTy (cr_setM hc) hgt hmt (by decide +kernel) pa (he := he)) pa_nil), ?_⟩
  exact dn_cb (r := fun xs H Q => rSetM X.K X.prog X.w xs H fun v H1 => rSortM X.prog X.w [v] H1 Q) cd_sset da
end
/-! ### the reading of a set comprehension -/
/-- where nothing changes: filter and map -/
theorem sc_inv {wg : WG} {wt : WT} {wb : WB} {env : Env'} {Q : List Key → Mem → Prop} (I : Nat → Mem → List Key → Prop) : ∀ (ds : List D) (k : Nat) {M : Mem} {acc : List Key}, I k M acc →
    (∀ (i : Nat) (d : D) (M : Mem) (acc : List Key), ds[i]? = some d → I (k + i) M acc → wg (.d d) env M fun env1 M1 => wt env1 M1 fun b M2 => if b = true then wb env1 M2 acc (fun m a => I (k + i + 1) m a) else I (k + i + 1) M2 acc) →
    (∀ M acc, I (k + ds.length) M acc → Q acc M) → wScL wg wt wb env ds M acc Q
  | [], k, M, acc, h0, hs, hd => hd M acc h0
  | d :: ds, k, M, acc, h0, hs, hd => ⟨I (k + 1), fun m a h => sc_inv I ds (k + 1) h (fun i d M acc hd hi => by
      have := hs (i + 1) d M acc (by simpa using hd) (by rw [show k + (i + 1) = k + 1 + i by omega]; exact hi)
      rw [show k + (i + 1) + 1 = k + 1 + i + 1 by omega] at this
      exact this) (fun M acc h => hd M acc (by rw [List.length_cons, show k + (ds.length + 1) = k + 1 + ds.length by omega]; exact h)), hs 0 d M acc rfl h0⟩
/-- one for: over c x for x in xs; where p holds the key f x -/
theorem sc_map {α : Type} {wg : WG} {wt : WT} {we : WE} {env : Env'} {Q : List Key → Mem → Prop} (c : α → D) (p : α → Bool) (f : α → Key) (xs : List α) {M : Mem} {acc0 : List Key} (hz : acc0.length + xs.length < 4000)
    (hs : ∀ x ∈ xs, ∀ (G : Mem → List Key → Prop) (acc : List Key), acc.length < 4000 → (p x = true → G M (acc ++ [f x])) → (p x = false → G M acc) → wg (.d (c x)) env M fun env1 M1 => wt env1 M1 fun b M2 => if b = true then wb1 we env1 M2 acc (fun m a => G m a) else G M2 acc)
    (hd : Q (acc0 ++ (xs.filter p).map f) M) : wScL wg wt (wb1 we) env (xs.map c) M acc0 Q := by
  refine sc_inv (fun i M' acc => M' = M ∧ i ≤ xs.length ∧ acc = acc0 ++ ((xs.take i).filter p).map f) (xs.map c) 0 ⟨rfl, Nat.zero_le _, by simp⟩ (fun i d M' acc e h => ?_) (fun M' acc h => ?_)
  · obtain ⟨rfl, hi, rfl⟩ := h
    obtain ⟨x, hx, rfl⟩ := map_get e
    rw [Nat.zero_add] at *
    have hl := get_lt hx
    have tk := take_get hx
    have h1 : ((xs.take i).filter p).length ≤ i := Nat.le_trans (List.length_filter_le _ _) (by rw [List.length_take]; omega)
    refine hs x (List.mem_of_getElem? hx) (fun m a => m = _ ∧ i + 1 ≤ xs.length ∧ a = acc0 ++ ((xs.take (i + 1)).filter p).map f) _ (by rw [List.length_append, List.length_map]; omega) (fun hp => ⟨rfl, hl, ?_⟩) (fun hp => ⟨rfl, hl, ?_⟩)
    · rw [tk, List.filter_append, List.map_append]; simp [hp]
    · rw [tk, List.filter_append, List.map_append]; simp [hp]
  · obtain ⟨rfl, _, rfl⟩ := h
    rw [Nat.zero_add, List.length_map, List.take_length]
    exact hd
theorem srtQ_i {is : List Int} {Q : D → Prop} (h : Q (.lst ((usI is).map .int))) : SrtQ (is.map .inl) Q := .inl ⟨is, rfl, h⟩
theorem srtQ_s {is : List Str} {Q : D → Prop} (h : Q (.lst ((usS is).map .str))) : SrtQ (is.map .inr) Q := .inr ⟨is, rfl, h⟩
end Dw
set_option Elab.async false
set_option linter.all false
set_option maxRecDepth 100000
set_option maxHeartbeats 4000000
/-! DwU: xs[::-1] of lists and tuples; rules of the simp set. -/
namespace Dw
open PySem PySem.Spec PyProof.Rows L2
section
variable {prog : Program} {w : World} {A : Around} {E : Value → Shared → Prop} {s : Shared}
theorem rev_places (n : Nat) : Builtin.Slice.slicePlaces ((n : Int) - 1) (-1) (-1) = n := by
  unfold Builtin.Slice.slicePlaces
  rw [if_neg (by decide)]
  by_cases h : n = 0
  · subst h; rfl
  · rw [if_pos (by omega), show (-(-1 : Int)) = 1 by decide, Int.ediv_one]; omega
theorem pick_back (xs : Array Value) : ((List.range xs.size).filterMap fun (m : Nat) => xs[((xs.size : Int) - 1 + (m : Int) * -1).toNat]?).toArray = xs.toList.reverse.toArray := by
  have e : ∀ l : List Nat, (∀ m ∈ l, m < xs.size) → (l.filterMap fun (m : Nat) => xs[((xs.size : Int) - 1 + (m : Int) * -1).toNat]?) = (l.map fun k => xs.size - 1 - k).filterMap (xs[·]?) := fun l hl => by
    induction l with
    | nil => rfl
    | cons m l ih =>
      have := hl m List.mem_cons_self
      rw [List.filterMap_cons, List.map_cons, List.filterMap_cons, ih fun j hj => hl j (List.mem_cons_of_mem _ hj), show ((xs.size : Int) - 1 + (m : Int) * -1).toNat = xs.size - 1 - m by omega]
  rw [e _ (fun m hm => List.mem_range.mp hm), PySem.W.krv_range, List.filterMap_reverse, PySem.W.krv_all]
theorem sliceApplied_back {sl : Addr} {vk : Value} {n : Nat} {Q : Int × Int × Nat → Shared → Prop} (hs : s.heap.IsSliceOf sl .none .none vk) (pk : IsPart vk (some (-1)))
    (h : Q ((n : Int) - 1, -1, n) s) : wpAny (model prog w) A (Builtin.Slice.sliceApplied (.ref sl) (pure (n : Int))) Q E s := by
  obtain ⟨os, hos, hcs, hds⟩ := id hs
  unfold Builtin.Slice.sliceApplied Builtin.Slice.sliceFields
  refine wpAny_bind (wpAny_bind (wpAny_field hos hds (x := .none) rfl (wpAny_bind (wpAny_field hos hds (x := .none) rfl (wpAny_bind (wpAny_field hos hds (x := vk) rfl (wpAny_pure ?_)))))))
  refine wpAny_bind (HT.slicePart_ pk ?_)
  show wpAny _ _ (if ((-1 : Int) == 0) = true then _ else _) _ _ s
  rw [if_neg (by decide)]
  refine wpAny_bind (HT.slicePart_ .none (wpAny_bind (HT.slicePart_ .none (wpAny_bind (wpAny_pure ?_)))))
  show wpAny _ _ (pure ((n : Int) - 1, (-1 : Int), Builtin.Slice.slicePlaces ((n : Int) - 1) (-1) (-1))) _ _ s
  rw [rev_places]
  exact wpAny_pure h
theorem getItem_tuple_back {t sl : Addr} {items : Array Value} {vk : Value} {Q : Value → Shared → Prop} (ht : IsTup s.heap t items) (hs : s.heap.IsSliceOf sl .none .none vk) (pk : IsPart vk (some (-1)))
    (h : Q (.ref s.heap.objs.size) { s with heap := s.heap.push { cls := .type "tuple", data := .seq items.toList.reverse.toArray } }) (hsz : items.size ≤ sizeLine) : wpAny (model prog w) A (getItem (.ref t) (.ref sl)) Q E s := by
  have hz : sizeOk (.seq items.toList.reverse.toArray) := by
    show items.toList.reverse.toArray.size ≤ sizeLine
    rw [List.size_toArray, List.length_reverse, Array.length_toList]; exact hsz
  obtain ⟨os, hos, hcs, hds⟩ := id hs
  unfold getItem
  try with_reducible refine wpAny_holding ?_
  first | refine wpAny_bind (wpAny_pure ?_) | skip
  refine wpAny_bind (wpAny_sequenceKey ht.typeIs (by decide) (wpAny_bind (wpAny_callSpecial?_slot (name := Str.ofString "__getitem__") ht.typeIs PyProof.Rows.slot_tuple_getitem
    (wpAny_call_entry PyProof.Rows.slot_tuple_getitem ht.typeIs entry_tuple_getitem ?_ (args_tuple_getitem _ _)))))
  show wpAny _ _ (Builtin.Tuple.tupleItemsOf (.ref t) >>= _) _ _ s
  refine wpAny_bind (tupleItemsOf_ ht (wpAny_bind (wpAny_typeOf (T := "slice") ⟨os, hos, hcs⟩ ?_)))
  rw [if_pos (by decide)]
  refine wpAny_bind (sliceApplied_back hs pk ?_)
  have nw : ¬ ((((items.size : Int) - 1) == 0 && (-1 : Int) == 1 && items.size == items.size) = true) := by
    rw [show ((-1 : Int) == 1) = false from rfl]; simp
  show wpAny _ _ (if (((items.size : Int) - 1) == 0 && (-1 : Int) == 1 && items.size == items.size) = true then _ else _) _ _ s
  rw [if_neg nw, pick_back]
  first
    | exact wpAny_bind (m := Builtin.Tuple.tupleExact _) (wpAny_newObj_type (wpAny_pure ⟨_, rfl, wpAny_pure h⟩) hz)
    | exact wpAny_bind (m := Builtin.Tuple.tupleExact _) (wpAny_newObj_type (wpAny_bind (wpAny_pure (wpAny_pure ⟨_, rfl, wpAny_pure h⟩))) hz)
    | exact wpAny_bind (wpAny_bind (m := Builtin.Tuple.tupleExact _) (wpAny_newObj_type (wpAny_pure (wpAny_pure ⟨_, rfl, wpAny_pure h⟩)) hz))
    | exact wpAny_bind (wpAny_bind (m := Builtin.Tuple.tupleExact _) (wpAny_newObj_type (wpAny_pure ⟨_, rfl, wpAny_pure h⟩) hz))
end
section
variable {J : Bs} {X : Cx} {e k : Expr} {te tk : TE} {we wk : WE} {p2 pos : Pos}
def tBack (K : PySem.W.Frag) (te tk : TE) : TE := fun σ H Q => te σ H fun x H1 => tk σ H1 fun y H2 => y = .int (-1) ∧ ∃ (a : Addr) (xs : List V), x = .ref a ∧ ((SqL K H2 a xs ∧ ∀ p, H2 p = none → Q (.ref p) (upd H2 p (.lst xs.reverse))) ∨ (SqT K H2 a xs ∧ ∀ p, H2 p = none → Q (.ref p) (upd H2 p (.tup xs.reverse))))
theorem vals_rev' {xs : List V} {us : List Value} (r : Vals xs us) : Vals xs.reverse us.reverse := by
  induction r with
  | nil => exact .nil
  | cons a t ih => rw [List.reverse_cons, List.reverse_cons]; exact ih.append (.cons a .nil)
theorem pe_back (he : PE X e te) (hk : PE X k tk) (hsub : ∀ o i : Value, ∃ ops, subscripted (.Slice none none (some k) p2) false o i = operate ops (getItem o i)) : PE X (.Subscript e (.Slice none none (some k) p2) pos) (tBack X.K te tk) := by
  refine ⟨fun pins s σ H Q I h => ?_⟩
  refine Subscript_ (thn (he.run pins s σ H _ I h) fun v s1 ⟨x, H1, I1, r1, q1⟩ => ?_)
  refine wpAny_Slice ?_
  rw [evalPart_none]
  refine wpAny_pure (wpAny_pure ?_)
  rw [evalPart_some]
  refine thn (hk.run pins s1 σ H1 _ I1 q1) fun vk s3 ⟨y, H3, I3, r3, ey, a, xs, ex, q3⟩ => ?_
  subst ey
  subst ex
  obtain ⟨tok, rfl⟩ := r3
  cases r1
  have I4 : Inv X pins σ H3 { s3 with heap := s3.heap.push { cls := .type "slice", data := .fields #[.none, .none, .int (-1) tok] } } := I3.kept (t' := s3.toks) fun b ob q => Heap.get?_push_of_some _ q
  have isl : (s3.heap.push { cls := .type "slice", data := .fields #[.none, .none, .int (-1) tok] }).IsSliceOf s3.heap.objs.size .none .none (.int (-1) tok) := Heap.IsSliceOf.new ..
  generalize hs4 : ({ s3 with heap := s3.heap.push { cls := .type "slice", data := .fields #[.none, .none, .int (-1) tok] } } : Shared) = s4 at I4
  have isl4 : s4.heap.IsSliceOf s3.heap.objs.size .none .none (.int (-1) tok) := by rw [← hs4]; exact isl
  have fin : ∃ T id, typeLookup (.type T) "__getitem__" = pure (some (.builtin id)) ∧ s4.TypeIs (.ref a) T ∧ wpAny (model X.prog X.w) X.A (getItem (.ref a) (.ref s3.heap.objs.size)) (EP X pins σ Q) X.xe s4 := by
    rcases q3 with ⟨hx, q3⟩ | ⟨hx, q3⟩
    · obtain ⟨its, r, ht, hz⟩ := I4.list hx
      have hlen := r.length
      refine ⟨"list", _, slot_list_getitem.lookup, ht.isList.typeIs, ?_⟩
      refine wpAny_getItem_list_slice ht.isList isl4 .none .none (.int (-1) tok) (by decide) ?_ (by rw [List.size_toArray]; omega)
      rw [PySem.W.krv_pick]
      refine ⟨.ref s4.heap.objs.size, _, I4.laid (t' := s4.toks) (o := .lst xs.reverse) (fun b ob q => Heap.get?_push_of_some _ q) (Nat.le_refl _) ?_, rfl, q3 _ (I4.hok.fresh (Nat.le_refl _))⟩
      exact ⟨by rw [List.length_reverse]; exact hz, _, 0, vals_rev' r, Heap.get?_push_size _ rfl⟩
    · obtain ⟨its, r, ht, hz⟩ := I4.tuple hx
      have hlen := r.length
      refine ⟨"tuple", _, PyProof.Rows.slot_tuple_getitem.lookup, ht.typeIs, ?_⟩
      refine getItem_tuple_back ht isl4 (.int (-1) tok) ?_ (by rw [List.size_toArray]; omega)
      refine ⟨.ref s4.heap.objs.size, _, I4.laid (t' := s4.toks) (o := .tup xs.reverse) (fun b ob q => Heap.get?_push_of_some _ q) (Nat.le_refl _) ?_, rfl, q3 _ (I4.hok.fresh (Nat.le_refl _))⟩
      exact ⟨by rw [List.length_reverse]; exact hz, _, vals_rev' r, IsTup.new _ _⟩
  obtain ⟨T, id, hT, ht, hg⟩ := fin
  obtain ⟨ops, ho⟩ := hsub (.ref a) (.ref s3.heap.objs.size)
  exact tail_any (ops := ops) ht hT hg ho
/-- xs[::-1] -/
def D.rev : D → Option D
  | .lst ds => some (.lst ds.reverse)
  | .tup ds => some (.tup ds.reverse)
  | _ => none
def wBack (we wk : WE) : WE := fun env M Q => we env M fun r M1 => wk env M1 fun y M2 => y = .d (.int (-1)) ∧ ∃ x, r.dat M2 = some x ∧ ∃ z, x.rev = some z ∧ Q (.d z) M2
theorem qe_back (he : QE J X e we) (hk : QE J X k wk) (hsub : ∀ o i : Value, ∃ ops, subscripted (.Slice none none (some k) p2) false o i = operate ops (getItem o i) := by intro o i; first | exact ⟨[i, o], by with_unfolding_all rfl⟩ | exact ⟨[o, i], by with_unfolding_all rfl⟩ | exact ⟨[], by with_unfolding_all rfl⟩) : QE J X (.Subscript e (.Slice none none (some k) p2) pos) (wBack we wk) := by
  obtain ⟨te, pe, de⟩ := he
  obtain ⟨tk, pk, dk⟩ := hk
  refine ⟨_, pe_back pe pk hsub, fun env M Q hw S A σ H R st en kk => ?_⟩
  refine de env M _ hw S A σ H _ st en fun v H1 r M1 A1 p1 s1 q1 hw1 => ?_
  refine dk env M1 _ hw1 S A1 σ H1 _ s1 (en.mono p1) fun u H2 y M2 A2 p2 s2 q2 ⟨ey, x, ex, z, ez, hq⟩ => ?_
  subst ey
  cases q2
  refine ⟨rfl, ?_⟩
  have rx := s2.dat (q1.mono p2) ex
  cases x with
  | lst ds =>
    cases ez
    obtain ⟨a, vs, rfl, h1, h2⟩ := rx
    refine ⟨a, vs, rfl, .inl ⟨h1, fun p hp => ?_⟩⟩
    have sm := same_upd (o := .lst vs.reverse) hp
    exact kk _ _ (.d (.lst ds.reverse)) M2 A2 ((p1.trans p2).trans (s2.post sm)) (s2.grow sm) ⟨p, _, rfl, .inl (.inl (view_at s2 hp)), Reps.rev (Reps.mono (off_same sm) _ _ h2)⟩ hq
  | tup ds =>
    cases ez
    obtain ⟨a, vs, rfl, h1, h2⟩ := rx
    refine ⟨a, vs, rfl, .inr ⟨same_t off_sub h1, fun p hp => ?_⟩⟩
    have sm := same_upd (o := .tup vs.reverse) hp
    exact kk _ _ (.d (.tup ds.reverse)) M2 A2 ((p1.trans p2).trans (s2.post sm)) (s2.grow sm) ⟨p, _, rfl, .inl (.inl (view_at s2 hp)), Reps.rev (Reps.mono (off_same sm) _ _ h2)⟩ hq
  | _ => cases ez
end
/-- a call that never comes -/
theorem fn_no {P : Program} {w : World} {K : PySem.W.Frag} {mg : Str → Option Value} {base : Heap} {CX : CXT} {k : Nat} {f : Addr} {fd : FuncData} {ps : List Str} : FnOk P w K mg base CX k f fd ps (spD K fun _ _ _ => False) :=
  ⟨fun vs H Q E h => by obtain ⟨_, _, _, _, _, _, _, h, _⟩ := h; exact h.elim, fun A outer s H args us vs Q E _ _ _ _ h => by obtain ⟨_, _, _, _, _, _, _, h, _⟩ := h; exact h.elim⟩
/-! ### rules -/
theorem rev_l {ds : List D} : (D.lst ds).rev = some (.lst ds.reverse) := rfl
theorem rev_t {ds : List D} : (D.tup ds).rev = some (.tup ds.reverse) := rfl
theorem kD_i {i : Int} {k : Key} : (D.int i = kD k) = (k = .inl i) := by
  cases k with
  | inl j => simp [kD]; exact eq_comm
  | inr x => simp [kD]
theorem kD_s {i : Str} {k : Key} : (D.str i = kD k) = (k = .inr i) := by
  cases k with
  | inl j => simp [kD]
  | inr x => simp [kD]; exact eq_comm
theorem rw0 : type_of% @wBack.eq_1 := @wBack.eq_1
theorem rw1 : type_of% @rev_l := @rev_l
theorem rw2 : type_of% @rev_t := @rev_t
theorem rw3 : type_of% @kD_i := @kD_i
theorem rw4 : type_of% @kD_s := @kD_s
theorem rw5 : type_of% @wSortSc.eq_1 := @wSortSc.eq_1
theorem rw6 : type_of% @wb1.eq_1 := @wb1.eq_1
theorem rw7 : type_of% @wb2.eq_1 := @wb2.eq_1
theorem rw8 : type_of% @isB_b := @isB_b
theorem rw9 : type_of% @isB_i := @isB_i
theorem rw10 : type_of% @isB_s := @isB_s
theorem rw11 : type_of% @isB_n := @isB_n
theorem rw12 : type_of% @isB_t := @isB_t
theorem rw13 : type_of% @isB_l := @isB_l
end Dw
set_option Elab.async false
set_option linter.all false
/-! Rows within rows, gathered by a map. -/
namespace Dw
open PySem PySem.Spec PyProof.Rows L2
theorem lc_mapA {α : Type} {wg : WG} {wt : WT} {we : WE} {env : Env'} {Q : List D → Mem → Prop} (c : α → D) (p : α → Bool) (f : α → D) (xs : List α) {M : Mem} {acc0 : List D}
    (hs : ∀ x ∈ xs, ∀ (G : Mem → List D → Prop) (acc : List D), (p x = true → G M (acc ++ [f x])) → (p x = false → G M acc) → wg (.d (c x)) env M fun env1 M1 => wt env1 M1 fun b M2 => if b = true then we env1 M2 fun y M3 => ∃ z, y = .d z ∧ G M3 (acc ++ [z]) else G M2 acc)
    (hd : Q (acc0 ++ (xs.filter p).map f) M) : wLcL wg wt we env (xs.map c) M acc0 Q := by
  refine lc_inv (fun i M' acc => M' = M ∧ acc = acc0 ++ ((xs.take i).filter p).map f) (xs.map c) 0 ⟨rfl, by simp⟩ (fun i d M' acc e h => ?_) (fun M' acc h => ?_)
  · obtain ⟨rfl, rfl⟩ := h
    rw [Nat.zero_add]
    obtain ⟨x, hx, rfl⟩ := map_get e
    refine hs x (List.mem_of_getElem? hx) (fun M' acc => M' = _ ∧ acc = acc0 ++ ((xs.take (i + 1)).filter p).map f) _ (fun hp => ⟨rfl, ?_⟩) (fun hp => ⟨rfl, ?_⟩)
    · rw [take_get hx, List.filter_append, List.map_append, ← List.append_assoc]; simp [hp]
    · rw [take_get hx, List.filter_append, List.map_append]; simp [hp]
  · obtain ⟨rfl, rfl⟩ := h
    rw [Nat.zero_add, List.length_map, List.take_length]
    exact hd
theorem lc_mapA' {α : Type} {wg : WG} {we : WE} {env : Env'} {Q : List D → Mem → Prop} (c : α → D) (f : α → D) (xs : List α) {M : Mem} {acc0 : List D}
    (hs : ∀ x ∈ xs, ∀ G : D → Mem → Prop, G (f x) M → wg (.d (c x)) env M fun env1 M1 => we env1 M1 fun y M3 => ∃ z, y = .d z ∧ G z M3)
    (hd : Q (acc0 ++ xs.map f) M) : wLcL wg wYes we env (xs.map c) M acc0 Q := by
  refine lc_mapA c (fun _ => true) f xs (fun x hx G acc h1 _ => ?_) ?_
  · simp only [wYes,if_true]
    exact hs x hx (fun z m => G m (acc ++ [z])) (h1 rfl)
  · rw [List.filter_eq_self.mpr (fun _ _ => rfl)]; exact hd
theorem lc2_map {α : Type} {wg : WG} {wt : WT} {wi1 : WI} {wg1 : WG} {wt1 : WT} {we : WE} {vs1 : List Nat} {env : Env'} {Q : List D → Mem → Prop} (c : α → D) (g : α → List D) (xs : List α) {M : Mem} {acc0 : List D}
    (hs : ∀ x ∈ xs, ∀ (G : Mem → List D → Prop) (acc : List D), acc.length + (g x).length ≤ (acc0 ++ xs.flatMap g).length → G M (acc ++ g x) → wg (.d (c x)) env M fun env1 M1 => wt env1 M1 fun b M2 =>
      if b = true then wi1 env1 M2 fun ds1 M3 => acc.length + ds1.length ≤ sizeLine ∧ wLcL wg1 wt1 we (wipeE env1 vs1) ds1 M3 acc fun acc' M4 => G M4 acc' else G M2 acc)
    (hd : Q (acc0 ++ xs.flatMap g) M) : wLc2L wg wt wi1 wg1 wt1 we vs1 env (xs.map c) M acc0 Q := by
  refine lc2_inv (fun i M' acc => M' = M ∧ acc = acc0 ++ (xs.take i).flatMap g) (xs.map c) 0 ⟨rfl, by simp⟩ (fun i d M' acc e h => ?_) (fun M' acc h => ?_)
  · obtain ⟨rfl, rfl⟩ := h
    rw [Nat.zero_add]
    obtain ⟨x, hx, rfl⟩ := map_get e
    refine hs x (List.mem_of_getElem? hx) (fun M1 acc => M1 = M' ∧ acc = acc0 ++ (xs.take (i + 1)).flatMap g) (acc0 ++ (xs.take i).flatMap g) ?_ ⟨rfl, ?_⟩
    · have h := get_lt hx
      have e2 : xs = xs.take i ++ x :: xs.drop (i + 1) := by
        conv => lhs; rw [← List.take_append_drop i xs, List.drop_eq_getElem_cons h, (List.getElem?_eq_some_iff.mp hx).2]
      have : (xs.flatMap g).length = ((xs.take i).flatMap g).length + ((g x).length + ((xs.drop (i + 1)).flatMap g).length) := by
        conv => lhs; rw [e2, List.flatMap_append, List.flatMap_cons, List.length_append, List.length_append]
      rw [List.length_append, List.length_append]; omega
    · rw [take_get hx, List.flatMap_append, ← List.append_assoc]; simp
  · obtain ⟨rfl, rfl⟩ := h
    rw [Nat.zero_add, List.length_map, List.take_length]
    exact hd
theorem dMul_one {x : D} {n : Nat} (h : n ≤ 1000) : dMul (.tup [x]) (.int n) = some (.tup (List.replicate n x)) := by
  rw [dMul_t, if_pos (by simp; omega)]; simp
theorem dIn_strs {x : Str} {l : List Str} : dIn (.str x) (.tup (l.map .str)) = some (.bl (decide (x ∈ l))) := by
  have h1 : (l.map D.str).all D.flat = true := by rw [List.all_eq_true]; intro d hd; obtain ⟨y, _, rfl⟩ := List.mem_map.mp hd; rfl
  rw [dIn_st, if_pos h1]
  congr 2
  induction l with
  | nil => simp
  | cons y l ih =>
    rw [List.map_cons, List.any_cons, ih (by simpa using fun d hd => by simp [D.flat])]
    rw [feq_ss]
    by_cases h : y = x
    · subst h; simp
    · have h' : ¬x = y := fun e => h e.symm
      simp [h, h']
theorem find_at {α : Type} {p : α → Bool} : ∀ {l : List α} {i : Nat} {x : α}, l[i]? = some x → p x = true → (∀ c ∈ l.take i, p c = false) → l.find? p = some x
  | [], i, x, h, _, _ => by simp at h
  | y :: l, 0, x, h, hp, _ => by simp at h; subst h; simp [hp]
  | y :: l, i + 1, x, h, hp, hc => by
    rw [List.find?_cons, hc y (by simp)]
    exact find_at (by simpa using h) hp fun c hm => hc c (by simp [hm])
theorem find_no {α : Type} {p : α → Bool} {l : List α} (hc : ∀ c ∈ l, p c = false) : l.find? p = none := by
  rw [List.find?_eq_none]; intro x hx; rw [hc x hx]; decide
theorem zipD_self {ds : List D} {i : Nat} {d : D} (h : (zipD ds ds)[i]? = some d) : ∃ x, ds[i]? = some x ∧ d = .tup [x, x] := by
  obtain ⟨x, y, h1, h2, rfl⟩ := zipD_get h
  rw [h1] at h2; cases h2; exact ⟨x, h1, rfl⟩
theorem pickD {ns : List D} {r : Int} (h0 : 0 ≤ r) (h1 : r < ns.length) : ∃ n ∈ ns, L2.atI ns r = some n := by
  obtain ⟨k, rfl⟩ : ∃ k : Nat, r = k := ⟨r.toNat, by omega⟩
  have h2 : k < ns.length := by omega
  exact ⟨ns[k], List.getElem_mem h2, atI_some (List.getElem?_eq_getElem h2)⟩
theorem pickA {α : Type} {ns : List α} {r : Int} (h0 : 0 ≤ r) (h1 : r < ns.length) : ∃ n ∈ ns, L2.atI ns r = some n := by
  obtain ⟨k, rfl⟩ : ∃ k : Nat, r = k := ⟨r.toNat, by omega⟩
  have h2 : k < ns.length := by omega
  exact ⟨ns[k], List.getElem_mem h2, atI_some (List.getElem?_eq_getElem h2)⟩
theorem pickI (ns : List Int) {r : Int} (h0 : 0 ≤ r) (h1 : r < ns.length) : ∃ n ∈ ns, L2.atI (ns.map D.int) r = some (.int n) := by
  obtain ⟨d, hd, e⟩ := pickD (ns := ns.map D.int) h0 (by simpa using h1)
  obtain ⟨n, hn, rfl⟩ := List.mem_map.mp hd
  exact ⟨n, hn, e⟩
theorem pickS (ns : List Str) {r : Int} (h0 : 0 ≤ r) (h1 : r < ns.length) : ∃ n ∈ ns, L2.atI (ns.map D.str) r = some (.str n) := by
  obtain ⟨d, hd, e⟩ := pickD (ns := ns.map D.str) h0 (by simpa using h1)
  obtain ⟨n, hn, rfl⟩ := List.mem_map.mp hd
  exact ⟨n, hn, e⟩
theorem pickM {α : Type} {f : α → D} {l : List α} {r : Int} (h0 : 0 ≤ r) (h1 : r < l.length) : ∃ n ∈ l, L2.atI (l.map f) r = some (f n) := by
  obtain ⟨d, hd, e⟩ := pickD (ns := l.map f) h0 (by simpa using h1)
  obtain ⟨n, hn, rfl⟩ := List.mem_map.mp hd
  exact ⟨n, hn, e⟩
theorem strOk_app {x y : Str} (h1 : PyData.strOk x = true) (h2 : PyData.strOk y = true) : PyData.strOk (x ++ y) = true := by
  have : (x ++ y).cps = x.cps ++ y.cps := rfl
  unfold PyData.strOk at *
  rw [this, Array.all_append, h1, h2]; rfl
theorem len_app {x y : Str} : (x ++ y).length = x.length + y.length := by
  show (x.cps ++ y.cps).size = _
  rw [Array.size_append]; rfl
theorem pickC {L : Str} {r : Int} (h0 : 0 ≤ r) (h1 : r < L.length) (hz : L.length ≤ 1000) (ho : PyData.strOk L = true) : ∃ c : Str, c.length = 1 ∧ PyData.strOk c = true ∧ dIx (.str L) (.int r) = some (.str c) ∧ ∃ x, c = ⟨#[x]⟩ ∧ L.cps.toList[r.toNat]? = some x := by
  obtain ⟨k, rfl⟩ : ∃ k : Nat, r = k := ⟨r.toNat, by omega⟩
  have h2 : k < L.cps.toList.length := by rw [Array.length_toList]; show k < L.length; omega
  refine ⟨⟨#[L.cps.toList[k]]⟩, rfl, ?_, ?_, _, rfl, by rw [show (k : Int).toNat = k from rfl]; exact List.getElem?_eq_getElem h2⟩
  · unfold PyData.strOk at *
    have : L.cps[k]'(by simpa using h2) < 0x110000 := by
      have := Array.all_eq_true.mp ho k (by simpa using h2)
      simpa using this
    simpa using this
  · rw [dIx_s, if_pos (sz (by omega)), atI_some (List.getElem?_eq_getElem h2)]; rfl
/-- a row gathered while the memory changes: each one good -/
theorem lc_all {α : Type} {wg : WG} {we : WE} {env : Env'} {Q : List D → Mem → Prop} (f : α → D) (P : Nat → α → Prop) (J : Mem → Prop) {ds : List D} {M : Mem} (h0 : J M)
    (hs : ∀ (i : Nat) (d : D) (M : Mem), ds[i]? = some d → J M → ∀ G : D → Mem → Prop, (∀ x M', P i x → J M' → G (f x) M') → wg (.d d) env M fun env1 M1 => we env1 M1 fun y M3 => ∃ z, y = .d z ∧ G z M3)
    (hd : ∀ (xs : List α) M, xs.length = ds.length → (∀ i x, xs[i]? = some x → P i x) → J M → Q (xs.map f) M) : wLcL wg wYes we env ds M [] Q := by
  refine lc_inv (fun i M acc => J M ∧ ∃ xs : List α, acc = xs.map f ∧ xs.length = i ∧ ∀ i x, xs[i]? = some x → P i x) ds 0 ⟨h0, [], rfl, rfl, by simp⟩ (fun i d M acc e h => ?_) (fun M acc h => ?_)
  · obtain ⟨h1, xs, rfl, h2, h3⟩ := h
    rw [Nat.zero_add] at h2 ⊢
    simp only [wYes,if_true]
    refine hs i d M e h1 (fun z M => J M ∧ ∃ xs' : List α, xs.map f ++ [z] = xs'.map f ∧ xs'.length = i + 1 ∧ ∀ i x, xs'[i]? = some x → P i x) fun x M' hx hJ => ⟨hJ, xs ++ [x], by simp, by simp [h2], fun j y hy => ?_⟩
    by_cases hj : j < xs.length
    · rw [List.getElem?_append_left hj] at hy; exact h3 j y hy
    · have := get_lt hy
      rw [List.length_append, List.length_singleton] at this
      obtain rfl : j = i := by omega
      rw [List.getElem?_append_right (by omega), show j - xs.length = 0 by omega] at hy
      cases hy; exact hx
  · obtain ⟨h1, xs, rfl, h2, h3⟩ := h
    exact hd xs M (by omega) h3 h1
theorem sort_strs (ws : List Str) : ∃ ws' : List Str, ws'.Perm ws ∧ fSorted [.lst (ws.map .str)] (.lst (ws'.map .str)) := by
  refine ⟨ws.mergeSort (fun a b => dLeB (.str a) (.str b)), List.mergeSort_perm _ _, ws.map .str, ws.map PyData.str, rfl, ?_, ?_, ?_⟩
  · induction ws with
    | nil => rfl
    | cons w ws ih => simp [D.pys, D.py, ih]
  · have := OneKind.ok (ks := ws.map .inr) (.inr ⟨ws, rfl⟩)
    rw [List.map_map] at this; exact this
  · rw [List.map_mergeSort (f := D.str) (r := fun a b => dLeB (.str a) (.str b)) (s := dLeB) (l := ws) fun _ _ _ _ => rfl]
theorem sort_ints (ws : List Int) : ∃ ws' : List Int, ws'.Perm ws ∧ fSorted [.lst (ws.map .int)] (.lst (ws'.map .int)) ∧ fSorted [.tup (ws.map .int)] (.lst (ws'.map .int)) := by
  have e : D.pys (ws.map .int) = some (ws.map PyData.int) := by
    induction ws with
    | nil => rfl
    | cons w ws ih => simp [D.pys, D.py, ih]
  have o : SrtOk (ws.map PyData.int) := by
    have := OneKind.ok (ks := ws.map .inl) (.inl ⟨ws, rfl⟩)
    rw [List.map_map] at this; exact this
  have m := List.map_mergeSort (f := D.int) (r := fun a b => dLeB (.int a) (.int b)) (s := dLeB) (l := ws) fun _ _ _ _ => rfl
  exact ⟨ws.mergeSort (fun a b => dLeB (.int a) (.int b)), List.mergeSort_perm _ _, ⟨_, _, rfl, e, o, by rw [m]⟩, ⟨_, _, rfl, e, o, by rw [m]⟩⟩
theorem allF_s {l : List Str} : (l.map D.str).all D.flat = true := by rw [List.all_eq_true]; intro d hd; obtain ⟨y, _, rfl⟩ := List.mem_map.mp hd; rfl
theorem allF_i {l : List Int} : (l.map D.int).all D.flat = true := by rw [List.all_eq_true]; intro d hd; obtain ⟨y, _, rfl⟩ := List.mem_map.mp hd; rfl
theorem any_s {x : Str} {l : List Str} : ((l.map D.str).any fun d => d.feq (.str x)) = decide (x ∈ l) := by
  have h := dIn_strs (x := x) (l := l)
  rw [dIn_st, if_pos allF_s] at h
  injection h with h; injection h
theorem any_i {x : Int} {l : List Int} : ((l.map D.int).any fun d => d.feq (.int x)) = decide (x ∈ l) := by
  induction l with
  | nil => simp
  | cons y l ih =>
    rw [List.map_cons, List.any_cons, ih, feq_ii]
    by_cases h : y = x
    · subst h; simp
    · have h' : ¬x = y := fun e => h e.symm
      simp [h, h']
theorem dNotIn_il {x : Int} {ds : List D} : dNotIn (.int x) (.lst ds) = if ds.all D.flat = true then some (.bl (!(ds.any fun d => d.feq (.int x)))) else none := by
  show ((if (true && ds.all D.flat) = true then _ else none : Option D).or none) = _
  rw [Bool.true_and, Option.or_none]; rfl
theorem dNotIn_sl {x : Str} {ds : List D} : dNotIn (.str x) (.lst ds) = if ds.all D.flat = true then some (.bl (!(ds.any fun d => d.feq (.str x)))) else none := by
  show ((if (true && ds.all D.flat) = true then _ else none : Option D).or none) = _
  rw [Bool.true_and, Option.or_none]; rfl
def putAt {α : Type} (l : List α) (i : Nat) (y : α) : List α := l.take i ++ [y] ++ l.drop (i + 1)
theorem mem_putAt {α : Type} {l : List α} {i : Nat} {x y : α} (h : x ∈ putAt l i y) : x = y ∨ x ∈ l := by
  unfold putAt at h
  simp only [List.mem_append,List.mem_singleton] at h
  rcases h with (h | h) | h
  · exact .inr (List.mem_of_mem_take h)
  · exact .inl h
  · exact .inr (List.mem_of_mem_drop h)
theorem len_putAt {α : Type} {l : List α} {i : Nat} {y : α} (h : i < l.length) : (putAt l i y).length = l.length := by
  unfold putAt; simp; omega
theorem put_at {α : Type} (f : α → D) {l : List α} {i : Nat} (y : α) {d : D} (hi : i < l.length) (hl : l.length ≤ 10000) (hd : f y = d) {Q : D → Prop} (hQ : Q (.tup ((putAt l i y).map f))) :
    ∃ z, dAdd (.tup (cutD (l.map f) none (some (i : Int)))) (.tup [d]) = some z ∧ ∃ z1, dAdd z (.tup (cutD (l.map f) (some ((i : Int) + 1)) none)) = some z1 ∧ Q z1 := by
  subst hd
  have e : cutD (l.map f) (some ((i : Int) + 1)) none = (l.drop (i + 1)).map f := by rw [cut_map, show ((i : Int) + 1) = ((i + 1 : Nat) : Int) by omega, cut_drop]
  rw [cut_map, cut_take, e]
  refine ⟨_, by rw [dAdd_t, if_pos (sz (by simp; omega))], _, by rw [dAdd_t, if_pos (sz (by simp; omega))], ?_⟩
  simpa [putAt] using hQ
theorem bck_0 {j n : Nat} : bck j n (.o 0) = .o j := rfl
theorem bck_1 {j n : Nat} : bck j n (.o 1) = .o n := rfl
theorem bck_2 {j n : Nat} : bck j n (.o 2) = .o (n + 1) := rfl
theorem rv16 : type_of% @bck_0 := @bck_0
theorem rv17 : type_of% @bck_1 := @bck_1
theorem rv18 : type_of% @bck_2 := @bck_2
theorem rv10 : type_of% @allF_s := @allF_s
theorem rv11 : type_of% @allF_i := @allF_i
theorem rv12 : type_of% @any_s := @any_s
theorem rv13 : type_of% @any_i := @any_i
theorem rv14 : type_of% @dNotIn_il := @dNotIn_il
theorem rv15 : type_of% @dNotIn_sl := @dNotIn_sl
/-- the last letter of a word -/
def lastC (w : Str) : Option Nat := w.cps.toList.getLast?
theorem lastC_app {u : Str} {x : Nat} : lastC (u ++ ⟨#[x]⟩) = some x := by
  have : (u ++ ⟨#[x]⟩ : Str).cps = u.cps ++ #[x] := rfl
  rw [lastC, this]; simp
theorem words_nodup {L : Str} {ws : List Str} {a b : Int} {n : Nat} (hL : L.cps.toList.Nodup) (hn : L.length = n) (h : ∀ (i : Nat) (w : Str), ws[i]? = some w → lastC w = L.cps.toList[((a + b * (i : Int)) % n).toNat]?)
    (hb : ∀ i j : Nat, i < j → j < ws.length → (a + b * (i : Int)) % n ≠ (a + b * (j : Int)) % n) (h0 : 0 < n) : ws.Nodup := by
  refine List.pairwise_iff_getElem.mpr fun i j hi hj hij e => ?_
  have h1 := h i _ (List.getElem?_eq_getElem hi)
  have h2 := h j _ (List.getElem?_eq_getElem hj)
  rw [e, h2] at h1
  have p := Int.emod_nonneg (a + b * (i : Int)) (show (n : Int) ≠ 0 by omega)
  have q := Int.emod_lt_of_pos (a + b * (i : Int)) (show (0 : Int) < n by omega)
  have p' := Int.emod_nonneg (a + b * (j : Int)) (show (n : Int) ≠ 0 by omega)
  have q' := Int.emod_lt_of_pos (a + b * (j : Int)) (show (0 : Int) < n by omega)
  have hz : L.cps.toList.length = n := by rw [Array.length_toList]; exact hn
  have := (List.getElem?_inj (by omega) hL).mp h1
  exact hb i j hij hj (by omega)
theorem rest_pos {α : Type} [DecidableEq α] {l : List α} {x : α} (h : l.Nodup) (h2 : 2 ≤ l.length) : 1 ≤ (l.filter fun y => !decide (y = x)).length := by
  match l, h, h2 with
  | a :: b :: t, h, _ =>
    have hab : a ≠ b := by simp at h; exact fun e => h.1.1 e
    by_cases ha : a = x
    · have : b ≠ x := fun e => hab (ha.trans e.symm)
      exact List.length_pos_of_mem (a := b) (List.mem_filter.mpr ⟨by simp, by simp [this]⟩)
    · exact List.length_pos_of_mem (a := a) (List.mem_filter.mpr ⟨by simp, by simp [ha]⟩)
theorem nodup_sub {α : Type} [DecidableEq α] : ∀ {ks qs : List α}, ks.Nodup → (∀ k ∈ ks, k ∈ qs) → ks.length ≤ qs.length
  | [], _, _, _ => Nat.zero_le _
  | k :: ks, qs, hn, hm => by
    have hn' := List.nodup_cons.mp hn
    have hk := hm k List.mem_cons_self
    have ih := nodup_sub (ks := ks) (qs := qs.filter fun x => decide (x ≠ k)) hn'.2 fun x hx => List.mem_filter.mpr ⟨hm x (List.mem_cons_of_mem _ hx), decide_eq_true fun e => hn'.1 (e ▸ hx)⟩
    have : (qs.filter fun x => decide (x ≠ k)).length < qs.length := List.length_filter_lt_length_iff_exists.mpr ⟨k, hk, by simp⟩
    rw [List.length_cons]; omega
/-- encodings whose equality is that of the things -/
structure Fai {α : Type} [DecidableEq α] (f : α → D) : Prop where
  ex : ∃ g : α → PyData, (∀ a, (f a).py = some (g a)) ∧ ∀ a b, PyData.eqv (g a) (g b) = decide (a = b)
theorem Fai.eq {α : Type} [DecidableEq α] {f : α → D} (h : Fai f) (a b : α) : (f a).eqb (f b) = decide (a = b) := by
  obtain ⟨g, h1, h2⟩ := h.ex
  unfold D.eqb
  rw [h1, h1]; exact h2 a b
theorem fai_int : Fai D.int := ⟨PyData.int, fun _ => rfl, fun a b => by rw [PyData.eqv]; by_cases h : a = b <;> simp [h]⟩
theorem fai_str : Fai D.str := ⟨PyData.str, fun _ => rfl, fun a b => by rw [PyData.eqv]; by_cases h : a = b <;> simp [h]⟩
theorem fai_pys {α : Type} [DecidableEq α] {f : α → D} {g : α → PyData} (h1 : ∀ a, (f a).py = some (g a)) : ∀ l : List α, D.pys (l.map f) = some (l.map g)
  | [] => rfl
  | a :: l => by simp [D.pys, h1, fai_pys h1 l]
theorem fai_all {α : Type} [DecidableEq α] {g : α → PyData} (h2 : ∀ a b, PyData.eqv (g a) (g b) = decide (a = b)) : ∀ l m : List α, PyData.eqvAll (l.map g) (m.map g) = decide (l = m)
  | [], [] => by simp [PyData.eqvAll]
  | [], _ :: _ => by simp [PyData.eqvAll]
  | _ :: _, [] => by simp [PyData.eqvAll]
  | a :: l, b :: m => by
    rw [List.map_cons, List.map_cons, PyData.eqvAll, h2, fai_all h2 l m]
    by_cases h : a = b <;> by_cases k : l = m <;> simp [h, k]
theorem fai_tup {α : Type} [DecidableEq α] {f : α → D} (h : Fai f) : Fai fun l : List α => D.tup (l.map f) := by
  obtain ⟨g, h1, h2⟩ := h.ex
  exact ⟨fun l => .tuple (l.map g), fun l => by simp [D.py, fai_pys h1 l], fun l m => by rw [PyData.eqv]; exact fai_all h2 l m⟩
theorem fai_lst {α : Type} [DecidableEq α] {f : α → D} (h : Fai f) : Fai fun l : List α => D.lst (l.map f) := by
  obtain ⟨g, h1, h2⟩ := h.ex
  exact ⟨fun l => .list (l.map g), fun l => by simp [D.py, fai_pys h1 l], fun l m => by rw [PyData.eqv]; exact fai_all h2 l m⟩
theorem fai_pair {α β : Type} [DecidableEq α] [DecidableEq β] {f : α → D} {f' : β → D} (h : Fai f) (h' : Fai f') : Fai fun p : α × β => D.tup [f p.1, f' p.2] := by
  obtain ⟨g, h1, h2⟩ := h.ex
  obtain ⟨g', h1', h2'⟩ := h'.ex
  refine ⟨fun p => .tuple [g p.1, g' p.2], fun p => by simp [D.py, D.pys, h1, h1'], fun p q => ?_⟩
  rw [PyData.eqv, PyData.eqvAll, PyData.eqvAll, PyData.eqvAll, h2, h2']
  obtain ⟨p1, p2⟩ := p
  obtain ⟨q1, q2⟩ := q
  by_cases h : p1 = q1 <;> by_cases k : p2 = q2 <;> simp [h, k]
theorem fai_comp {α β : Type} [DecidableEq α] [DecidableEq β] {f : β → D} {k : α → β} (h : Fai f) (hk : ∀ a b, k a = k b → a = b) : Fai fun a => f (k a) := by
  obtain ⟨g, h1, h2⟩ := h.ex
  refine ⟨fun a => g (k a), fun a => h1 _, fun a b => ?_⟩
  rw [h2]
  by_cases e : a = b
  · subst e; simp
  · have e2 : ¬k a = k b := fun e' => e (hk a b e')
    simp [e, e2]
end Dw
set_option Elab.async false
set_option linter.all false
set_option maxRecDepth 100000
set_option maxHeartbeats 4000000
/-! Dv2: dict displays, dict(x), rows extended by any row, texts of whole numbers. -/
namespace Dw
open PySem PySem.Spec PyProof.Rows L2
def wPairs : List (WE × WE) → Env' → Mem → (List (Key × D) → Mem → Prop) → Prop
  | [], _, M, Q => Q [] M
  | (wk, wv) :: r, env, M, Q => wk env M fun x M1 => wv env M1 fun y M2 => ∃ q, x = .d q ∧ ∃ key, keyD q = some key ∧ ∃ d, y = .d d ∧ wPairs r env M2 fun ps M3 => Q ((key, d) :: ps) M3
def dMerge (acc : List (Key × D)) (kvs : List (Key × D)) : List (Key × D) := kvs.foldl (fun a kv => dPutK a kv.1 kv.2) acc
def dDct (kvs : List (Key × D)) : D := .dct (kvs.map (·.1)) (kvs.map (·.2))
section
variable {K : PySem.W.Frag} {J : Bs} {X : Cx} {h : Hp}
theorem key_of {q : D} {key : Key} {v : V} (e : keyD q = some key) (r : Rep K h q v) : v = kV key := by
  cases q <;> cases e <;> exact r
theorem RepD.merge : ∀ {kvs : List (Key × D)} {us : List (Key × V)} {acc : List (Key × D)} {as : List (Key × V)}, RepD K h acc as → RepD K h kvs us → RepD K h (dMerge acc kvs) (mergeK as us)
  | [], us, acc, as, ra, r => by rw [RepD.nil_iff r]; exact ra
  | (k, d) :: kvs, us, acc, as, ra, r => by
    obtain ⟨v, us', rfl, rv, r'⟩ := RepD.cons_inv r
    exact RepD.merge (kvs := kvs) (us := us') (RepD.put k rv ra) r'
theorem RepD.mono' {h' : Hp} (e : Same h h') {kvs : List (Key × D)} {us : List (Key × V)} (r : RepD K h kvs us) : RepD K h' kvs us := ⟨r.1, Reps.mono e _ _ r.2⟩
theorem RepD.cons' {k : Key} {d : D} {v : V} {kvs : List (Key × D)} {us : List (Key × V)} (rv : Rep K h d v) (r : RepD K h kvs us) : RepD K h ((k, d) :: kvs) ((k, v) :: us) :=
  ⟨by simp [r.1], ⟨v, us.map (·.2), rfl, rv, r.2⟩⟩
/-- what the pairs read as -/
def DnP (J : Bs) (K : PySem.W.Frag) (trs : List (TE × TE)) (wps : List (WE × WE)) : Prop := ∀ env M Q, wPairs wps env M Q →
  ∀ (S A : List Addr) (σ : L2.St) (H : Hp) (R : List (V × V) → Hp → Prop), Sto K S A H M → EnvOk J K S A H env σ →
    (∀ (us : List (Key × V)) (kvs : List (Key × D)) (H' : Hp) (M' : Mem) (A' : List Addr), Post S A H A' H' → Sto K S A' H' M' → RepD K (view S A' H') kvs us → Q kvs M' → R (us.map fun kv => (kV kv.1, kv.2)) H') → tPairs trs σ H R
theorem dnp_nil : DnP J K [] [] := fun env M Q hw S A σ H R st en k => k [] [] H M A ⟨List.prefix_refl _, Same.refl _, fun _ _ => rfl⟩ st ⟨rfl, rfl⟩ hw
theorem dnp_cons {tk tv : TE} {wk wv : WE} {trs : List (TE × TE)} {wps : List (WE × WE)} (hk : Dn J K tk wk) (hv : Dn J K tv wv) (hr : DnP J K trs wps) : DnP J K ((tk, tv) :: trs) ((wk, wv) :: wps) := by
  intro env M Q hw S A σ H R st en k
  refine hk env M _ hw S A σ H _ st en fun x H1 rx M1 A1 p1 s1 q1 hw1 => ?_
  refine hv env M1 _ hw1 S A1 σ H1 _ s1 (en.mono p1) fun y H2 ry M2 A2 p2 s2 q2 ⟨q, e1, key, e2, d, e3, hw2⟩ => ?_
  subst e1 e3
  refine hr env M2 _ hw2 S A2 σ H2 _ s2 ((en.mono p1).mono p2) fun us kvs H3 M3 A3 p3 s3 q3 hq => ?_
  have e := key_of e2 q1
  subst e
  have := k ((key, y) :: us) ((key, d) :: kvs) H3 M3 A3 ((p1.trans p2).trans p3) s3 (RepD.cons' (Rep.mono p3.view _ _ q2) q3) hq
  exact this
/-- a display as data -/
def wDispD (wps : List (WE × WE)) : WE := fun env M Q => wPairs wps env M fun kvs M1 => kvs.length ≤ 15 ∧ Q (.d (dDct (dMerge [] kvs))) M1
/-- a display as a dict that changes -/
def wDispO (wps : List (WE × WE)) : WE := fun env M Q => wPairs wps env M fun kvs M1 => kvs.length ≤ 15 ∧ Q (.o M1.length) (M1 ++ [.dic (dMerge [] kvs)])
theorem rep_dDct {kvs : List (Key × D)} {us : List (Key × V)} {a : Addr} (e : h a = some (.dK us)) (r : RepD K h kvs us) : Rep K h (dDct kvs) (.ref a) := by
  have ez : (kvs.map (·.1)).zip (us.map (·.2)) = us := by rw [← r.1]; exact zip_parts us
  exact ⟨a, us.map (·.2), rfl, by rw [ez]; exact e, by rw [← r.1, List.length_map, List.length_map], r.2⟩
theorem dn_disp {trs : List (TE × TE)} {wps : List (WE × WE)} (hp : DnP J K trs wps) {env : Env'} {M : Mem} {Q : List (Key × D) → Mem → Prop} (hw : wPairs wps env M fun kvs M1 => kvs.length ≤ 15 ∧ Q kvs M1)
    {S A : List Addr} {σ : L2.St} {H : Hp} {R : VK} (st : Sto K S A H M) (en : EnvOk J K S A H env σ)
    (k : ∀ (p : Addr) (us : List (Key × V)) (kvs : List (Key × D)) (H' : Hp) (M' : Mem) (A' : List Addr), p ∉ S → p ∉ A' → H' p = some (.dK us) → A <+: A' → Same (view S A H) (view (p :: S) A' H') → (∀ a ∈ S, H' a = H a) → Sto K (p :: S) A' H' M' → RepD K (view (p :: S) A' H') (dMerge [] kvs) us → Q kvs M' → R (.ref p) H') : tDisp trs σ H R := by
  intro D0 hD
  have fr := st.fresh hD
  have nS : D0 ∉ S := fun z => fr (List.mem_append_left _ z)
  have nA : D0 ∉ A := fun z => fr (List.mem_append_right _ z)
  have sub : ∀ (A : List Addr) (H : Hp), Same (view (D0 :: S) A H) (view S A H) := fun A H => off_less fun a ha => List.mem_cons_of_mem _ ha
  have v0 : Same (view S A H) (view (D0 :: S) A (upd H D0 (.dK []))) := fun b x e => by
    obtain ⟨n, q⟩ := off_some e
    have hb : b ≠ D0 := ne_of_none q hD
    refine off_of (fun z => ?_) (by rw [upd_ne hb]; exact q)
    rcases List.mem_cons.mp z with z | z
    · exact hb z
    · exact n z
  have h0 : ∀ a ∈ S, (upd H D0 (.dK [])) a = H a := fun a ha => upd_ne fun (z : a = D0) => nS (by rw [← z]; exact ha)
  have st0 : Sto K (D0 :: S) A (upd H D0 (.dK [])) M := by
    refine ⟨st.len, st.nd, fun a ha z => ?_, fun a ha => ?_, fun i mo a h1 h2 => ?_⟩
    · rcases List.mem_cons.mp z with z | z
      · exact nA (z ▸ ha)
      · exact st.dj a ha z
    · rcases List.mem_cons.mp ha with rfl | ha
      · exact ⟨_, upd_same⟩
      · obtain ⟨o, e⟩ := st.trk a ha
        exact ⟨o, by rw [upd_ne (ne_of_none e hD)]; exact e⟩
    · exact (st.mem i mo a h1 h2).to (upd_ne (fun (z : a = D0) => nA (by rw [← z]; exact List.mem_of_getElem? h2))) v0
  have en0 : EnvOk J K (D0 :: S) A (upd H D0 (.dK [])) env σ := en.to (List.prefix_refl _) v0 (fun a ha => List.mem_cons_of_mem _ ha) h0
  refine hp env M _ hw (D0 :: S) A σ _ _ st0 en0 fun us kvs H2 M2 A2 p2 s2 q2 ⟨hl, hq⟩ => ?_
  have hD2 : H2 D0 = some (.dK []) := (p2.hid D0 List.mem_cons_self).trans upd_same
  refine ⟨hD2, us, rfl, ?_, ?_⟩
  · have := congrArg List.length q2.1
    rw [List.length_map, List.length_map] at this
    omega
  have nA2 : D0 ∉ A2 := fun z => s2.dj D0 z List.mem_cons_self
  have vset : Same (view (D0 :: S) A2 H2) (view (D0 :: S) A2 (upd H2 D0 (.dK (mergeK [] us)))) := fun b x e => by
    obtain ⟨n, q⟩ := off_some e
    have hb : b ≠ D0 := fun z => n (by rw [z]; exact List.mem_cons_self)
    exact off_of n (by rw [upd_ne hb]; exact q)
  refine k D0 (mergeK [] us) kvs _ M2 A2 nS nA2 upd_same p2.pre ((v0.trans p2.view).trans vset) (fun a ha => ?_) ⟨s2.len, s2.nd, s2.dj, fun a ha => ?_, fun j mo a h1 h2 => ?_⟩ (RepD.merge ⟨rfl, rfl⟩ (RepD.mono' vset q2)) hq
  · rw [upd_ne (fun (z : a = D0) => nS (by rw [← z]; exact ha))]
    exact (p2.hid a (List.mem_cons_of_mem _ ha)).trans (h0 a ha)
  · by_cases e : a = D0
    · subst e; exact ⟨_, upd_same⟩
    · rw [upd_ne e]; exact s2.trk a ha
  · exact (s2.mem j mo a h1 h2).to (upd_ne (fun (z : a = D0) => nA2 (by rw [← z]; exact List.mem_of_getElem? h2))) vset
/-- the new dict no longer hidden: data -/
theorem shown {S A : List Addr} {H : Hp} {M : Mem} {p : Addr} (s : Sto K (p :: S) A H M) : Sto K S A H M ∧ Same (view (p :: S) A H) (view S A H) := by
  have sb : Same (view (p :: S) A H) (view S A H) := off_less fun a ha => List.mem_cons_of_mem _ ha
  exact ⟨⟨s.len, s.nd, fun a ha z => s.dj a ha (List.mem_cons_of_mem _ z), fun a ha => s.trk a (List.mem_cons_of_mem _ ha), fun j mo a h1 h2 => (s.mem j mo a h1 h2).to rfl sb⟩, sb⟩
/-- .. an object -/
theorem owned {S A : List Addr} {H : Hp} {M : Mem} {p : Addr} {us : List (Key × V)} {kvs : List (Key × D)} (s : Sto K (p :: S) A H M) (nS : p ∉ S) (nA : p ∉ A) (e : H p = some (.dK us)) (r : RepD K (view (p :: S) A H) kvs us) :
    Sto K S (A ++ [p]) H (M ++ [.dic kvs]) ∧ Same (view (p :: S) A H) (view S (A ++ [p]) H) := by
  have sb : Same (view (p :: S) A H) (view S (A ++ [p]) H) := off_less fun a ha => by
    rcases List.mem_append.mp ha with ha | ha
    · exact List.mem_append_left _ (List.mem_cons_of_mem _ ha)
    · rcases List.mem_append.mp ha with ha | ha
      · exact List.mem_append_right _ ha
      · rw [List.mem_singleton.mp ha]; exact List.mem_append_left _ List.mem_cons_self
  refine ⟨⟨by simp [s.len], ?_, fun a ha z => ?_, fun a ha => s.trk a (List.mem_cons_of_mem _ ha), fun j mo a h1 h2 => ?_⟩, sb⟩
  · rw [List.nodup_append]
    exact ⟨s.nd, by simp, fun a ha b hb e => nA (by rw [← List.mem_singleton.mp hb, ← e]; exact ha)⟩
  · rcases List.mem_append.mp ha with ha | ha
    · exact s.dj a ha (List.mem_cons_of_mem _ z)
    · exact nS (by rw [← List.mem_singleton.mp ha]; exact z)
  · by_cases hj : j < M.length
    · rw [List.getElem?_append_left hj] at h1
      rw [List.getElem?_append_left (by rw [s.len]; exact hj)] at h2
      exact (s.mem j mo a h1 h2).to rfl sb
    · have hj2 := get_lt h1
      rw [List.length_append, List.length_singleton] at hj2
      obtain rfl : j = M.length := by omega
      rw [List.getElem?_append_right (Nat.le_refl _)] at h1
      rw [List.getElem?_append_right (by rw [s.len]; exact Nat.le_refl _)] at h2
      simp [s.len] at h1 h2
      subst h1; subst h2
      exact ⟨us, e, RepD.mono' sb r⟩
/-- pairs of a display -/
def QP (J : Bs) (X : Cx) (pos : Pos) (keys : List (Option Expr)) (values : List Expr) (wps : List (WE × WE)) : Prop := ∃ trs, PPs X pos keys values trs ∧ DnP J X.K trs wps
theorem qp_nil {pos : Pos} : QP J X pos [] [] [] := ⟨[], pps_nil, dnp_nil⟩
theorem qp_cons {pos : Pos} {k v : Expr} {wk wv : WE} {ks : List (Option Expr)} {vs : List Expr} {wps : List (WE × WE)} (hk : QE J X k wk) (hv : QE J X v wv) (hr : QP J X pos ks vs wps) : QP J X pos (some k :: ks) (v :: vs) ((wk, wv) :: wps) := by
  obtain ⟨tk, pk, dk⟩ := hk
  obtain ⟨tv, pv, dv⟩ := hv
  obtain ⟨trs, pr, dr⟩ := hr
  exact ⟨_, pps_cons pk pv pr, dnp_cons dk dv dr⟩
theorem qe_dispD {pos : Pos} {keys : List (Option Expr)} {values : List Expr} {wps : List (WE × WE)} (h : QP J X pos keys values wps) (hall : keys.all (·.isSome) = true := by rfl) (hl : keys.length = values.length := by rfl) (h0 : keys ≠ [] := by intro z; cases z)
    (h15 : keys.length ≤ 15 := by decide) : QE J X (.Dict keys values pos) (wDispD wps) := by
  obtain ⟨trs, pp, dp⟩ := h
  refine ⟨_, pe_disp pp hall hl h0 h15, fun env M Q hw S A σ H R st en k => dn_disp dp (Q := fun kvs M1 => Q (.d (dDct (dMerge [] kvs))) M1) hw st en fun p us kvs H' M' A' nS nA e pre vw hid s' r q => ?_⟩
  obtain ⟨s2, sb⟩ := shown s'
  exact k (.ref p) H' (.d (dDct (dMerge [] kvs))) M' A' ⟨pre, vw.trans sb, hid⟩ s2 (rep_dDct (off_of (fun z => (List.mem_append.mp z).elim nS nA) e) (RepD.mono' sb r)) q
theorem qe_dispO {pos : Pos} {keys : List (Option Expr)} {values : List Expr} {wps : List (WE × WE)} (h : QP J X pos keys values wps) (hall : keys.all (·.isSome) = true := by rfl) (hl : keys.length = values.length := by rfl) (h0 : keys ≠ [] := by intro z; cases z)
    (h15 : keys.length ≤ 15 := by decide) : QE J X (.Dict keys values pos) (wDispO wps) := by
  obtain ⟨trs, pp, dp⟩ := h
  refine ⟨_, pe_disp pp hall hl h0 h15, fun env M Q hw S A σ H R st en k => dn_disp dp (Q := fun (kvs : List (Key × D)) (M1 : Mem) => Q (.o M1.length) (M1 ++ [MO.dic (dMerge [] kvs)])) (show wPairs wps env M _ from hw) st en fun p us kvs H' M' A' nS nA e pre vw hid s' r q => ?_⟩
  obtain ⟨s2, sb⟩ := owned s' nS nA e r
  exact k (.ref p) H' (.o M'.length) _ (A' ++ [p]) ⟨pre.trans (List.prefix_append _ _), vw.trans sb, hid⟩ s2 ⟨p, by rw [← s'.len, List.getElem?_append_right (Nat.le_refl _)]; simp, rfl⟩ q
/-! ### dict(x) of a row of pairs, of a dict -/
def pairK : D → Option (Key × D)
  | .tup [k, d] => (keyD k).map fun key => (key, d)
  | _ => none
def pairsK : List D → Option (List (Key × D))
  | [] => some []
  | d :: ds => match pairK d, pairsK ds with
    | some p, some ps => some (p :: ps)
    | _, _ => none
/-- what dict(x) holds -/
def dictOf : D → Option (List (Key × D))
  | .lst ds => (pairsK ds).map (dMerge [])
  | .dct ks ds => some (ks.zip ds)
  | _ => none
theorem paired_of {K : PySem.W.Frag} {h : Hp} : ∀ {ds : List D} {vs : List V} {kvs : List (Key × D)}, Reps K h ds vs → pairsK ds = some kvs →
    ∃ (ps : List Addr) (us : List (Key × V)), vs = ps.map V.ref ∧ Paired (fun p kv => SqT K h p [kV kv.1, kv.2]) ps us ∧ RepD K h kvs us
  | [], _, kvs, r, e => by cases r; cases e; exact ⟨[], [], rfl, .nil, ⟨rfl, rfl⟩⟩
  | d :: ds, _, kvs, ⟨v, vs', e1, r1, r2⟩, e => by
    subst e1
    unfold pairsK at e
    cases h1 : pairK d with
    | none => rw [h1] at e; cases e
    | some p =>
      cases h2 : pairsK ds with
      | none => rw [h1, h2] at e; cases e
      | some ps =>
        rw [h1, h2] at e
        cases e
        obtain ⟨as, us, rfl, q1, q2⟩ := paired_of r2 h2
        obtain ⟨k, x, rfl, key, hk, rfl⟩ : ∃ k x, d = .tup [k, x] ∧ ∃ key, keyD k = some key ∧ p = (key, x) := by
          unfold pairK at h1
          split at h1
          · rename_i k x
            cases hk : keyD k with
            | none => rw [hk] at h1; cases h1
            | some key => rw [hk] at h1; cases h1; exact ⟨k, x, rfl, key, hk, rfl⟩
          · cases h1
        obtain ⟨a, ws, rfl, ht, ⟨w1, ws1, rfl, rk, ⟨w2, ws2, rfl, rx, rn⟩⟩⟩ := r1
        cases rn
        have := key_of hk rk
        subst this
        exact ⟨a :: as, (key, w2) :: us, rfl, .cons ht q1, RepD.cons' rx q2⟩
theorem same_paired {K : PySem.W.Frag} {h h' : Hp} (e : Same h h') : ∀ {ps : List Addr} {us : List (Key × V)}, Paired (fun p kv => SqT K h p [kV kv.1, kv.2]) ps us → Paired (fun p kv => SqT K h' p [kV kv.1, kv.2]) ps us
  | _, _, .nil => .nil
  | _, _, .cons a b => .cons (same_t e a) (same_paired e b)
/-- dict(x) as data -/
def wDictD (ws : WA) : WE := fun env M Q => ws env M fun rs M1 => ∃ ds, dats M1 rs = some ds ∧ ∃ x, ds = [x] ∧ ∃ kvs, dictOf x = some kvs ∧ Q (.d (dDct kvs)) M1
/-- a dict that changes -/
def wDictO (ws : WA) : WE := fun env M Q => ws env M fun rs M1 => ∃ ds, dats M1 rs = some ds ∧ ∃ x, ds = [x] ∧ ∃ kvs, dictOf x = some kvs ∧ Q (.o M1.length) (M1 ++ [.dic kvs])
theorem call_dictB (hc : X.calm = true) : CallR X (.type "dict") (fun xs H Q => (∃ (a : Addr) (ps : List Addr) (kvs : List (Key × V)), xs = [.ref a] ∧ SqL X.K H a (ps.map V.ref) ∧ Paired (fun p kv => SqT X.K H p [kV kv.1, kv.2]) ps kvs ∧ ∀ p, H p = none → Q (.ref p) (upd H p (.dK (mergeK [] kvs)))) ∨
    ∃ (a : Addr) (kvs : List (Key × V)), xs = [.ref a] ∧ Rd H a (.dK kvs) ∧ ∀ p, H p = none → Q (.ref p) (upd H p (.dK kvs))) := by
  intro pins s σ H xs us Q I r h
  rcases h with h | h
  · exact call_dictP hc pins s σ H xs us Q I r h
  · exact call_dictD pins s σ H xs us Q I r h
end
section
variable {J : Bs} {X : Cx} {e : Expr} {ws : WA} {p pos : Pos}
theorem dict_core {S A : List Addr} {H : Hp} {M : Mem} {R : VK} {x : D} {vs : List V} {kvs : List (Key × D)} (st : Sto X.K S A H M) (r : RepFs X.K H (view S A H) [x] vs) (e : dictOf x = some kvs)
    (k : ∀ (q : Addr) (us : List (Key × V)), H q = none → RepD X.K (view S A H) kvs us → R (.ref q) (upd H q (.dK us))) :
    ((∃ (a : Addr) (ps : List Addr) (kvs : List (Key × V)), vs = [.ref a] ∧ SqL X.K H a (ps.map V.ref) ∧ Paired (fun p kv => SqT X.K H p [kV kv.1, kv.2]) ps kvs ∧ ∀ p, H p = none → R (.ref p) (upd H p (.dK (mergeK [] kvs)))) ∨
    ∃ (a : Addr) (kvs : List (Key × V)), vs = [.ref a] ∧ Rd H a (.dK kvs) ∧ ∀ p, H p = none → R (.ref p) (upd H p (.dK kvs))) := by
  obtain ⟨v, rfl, rf⟩ := r.one
  cases x with
  | lst ds =>
    obtain ⟨ps0, h1, rfl⟩ : ∃ ps, pairsK ds = some ps ∧ dMerge [] ps = kvs := by
      have e : (pairsK ds).map (dMerge []) = some kvs := e
      cases h : pairsK ds with
      | none => rw [h] at e; cases e
      | some ps => rw [h] at e; cases e; exact ⟨ps, rfl, rfl⟩
    obtain ⟨q, xs, rfl, e2, e3⟩ := rf
    obtain ⟨as, us, rfl, q1, q2⟩ := paired_of e3 h1
    exact .inl ⟨q, as, us, rfl, e2, same_paired off_sub q1, fun p hp => k p _ hp (RepD.merge ⟨rfl, rfl⟩ q2)⟩
  | dct ks ds =>
    have e : some (ks.zip ds) = some kvs := e
    cases e
    obtain ⟨a, us, rfl, e1, e2⟩ := rep_dct (h := view S A H) (K := X.K) rf
    exact .inr ⟨a, us, rfl, .inl (off_some e1).2, fun p hp => k p us hp e2⟩
  | _ => cases e
theorem qe_dictD (hc : X.calm = true) (hg : Gl X "dict") (hm : X.mg "dict" = none) (ha : QA J X [e] ws) (he : starEach [e] X.env = (false, eval e X.env) :: starEach [] X.env := by rfl) (hpl : (backTo pos (starEach [] X.env)).any (·.1) = false := by rfl) : QE J X (.Call (.Name "dict" p) [e] [] pos) (wDictD ws) := by
  obtain ⟨ta, pa, da⟩ := ha
  refine ⟨_, pe_callTy (call_dictB hc) hg hm PyProof.Rows.boot_dict pa (by decide) (by decide) he hpl, fun env M Q hw S A σ H R st en k => ?_⟩
  refine da env M _ hw S A σ H _ st en fun vs H1 rs M1 A1 p1 s1 q1 ⟨ds, e1, x, ex, kvs, hi, hq⟩ => ?_
  subst ex
  refine dict_core s1 (s1.dats q1 e1) hi fun q us hn r => ?_
  have sm := same_upd (o := .dK us) hn
  refine k _ _ (.d (dDct kvs)) _ _ (p1.trans (s1.post sm)) (s1.grow sm) (rep_dDct (off_of (s1.fresh hn) upd_same) (RepD.mono' (off_same sm) r)) hq
theorem qe_dictO (hc : X.calm = true) (hg : Gl X "dict") (hm : X.mg "dict" = none) (ha : QA J X [e] ws) (he : starEach [e] X.env = (false, eval e X.env) :: starEach [] X.env := by rfl) (hpl : (backTo pos (starEach [] X.env)).any (·.1) = false := by rfl) : QE J X (.Call (.Name "dict" p) [e] [] pos) (wDictO ws) := by
  obtain ⟨ta, pa, da⟩ := ha
  refine ⟨_, pe_callTy (call_dictB hc) hg hm PyProof.Rows.boot_dict pa (by decide) (by decide) he hpl, fun env M Q hw S A σ H R st en k => ?_⟩
  refine da env M _ hw S A σ H _ st en fun vs H1 rs M1 A1 p1 s1 q1 ⟨ds, e1, x, ex, kvs, hi, hq⟩ => ?_
  subst ex
  refine dict_core s1 (s1.dats q1 e1) hi fun q us hn r => ?_
  obtain ⟨s2, p2⟩ := s1.new (mo := .dic kvs) (o := .dK us) hn ⟨us, upd_same, RepD.mono' (view_new hn) r⟩
  exact k _ _ (.o M1.length) _ _ (p1.trans p2) s2 ⟨q, by rw [← s1.len, List.getElem?_append_right (Nat.le_refl _)]; simp, rfl⟩ hq
end
/-! ### str(i) -/
def fStr (ds : List D) (z : D) : Prop := match ds with
  | [.int i] => i.natAbs.log2 < 1920 ∧ z = .str (toString i)
  | [.str x] => z = .str x
  | _ => False
section
variable {K : PySem.W.Frag} {X : Cx} {J : Bs} {e : Expr} {ws : WA} {p pos : Pos}
theorem call_strB : CallR X (.type "str") (fun xs H Q => (∃ i, xs = [.int i] ∧ i.natAbs.log2 < 1920 ∧ Q (.str (toString i)) H) ∨ ∃ a, xs = [.str a] ∧ Q (.str a) H) := by
  intro pins s σ H xs us Q I r h
  rcases h with h | h
  · exact call_str_int pins s σ H xs us Q I r h
  · exact SkE.call_str_str pins s σ H xs us Q I r h
theorem cd_str : CallD K (fun xs H Q => (∃ i, xs = [.int i] ∧ i.natAbs.log2 < 1920 ∧ Q (.str (toString i)) H) ∨ ∃ a, xs = [.str a] ∧ Q (.str a) H) fStr := by
  intro S A M H ds z vs R st q e k
  match ds, e with
  | [.int i], e =>
    obtain ⟨v, rfl, r⟩ := q.one
    cases r
    obtain ⟨h1, rfl⟩ := e
    exact .inl ⟨i, rfl, h1, k _ H (Same.refl _) (show V.str _ = V.str _ from rfl)⟩
  | [.str x], e =>
    obtain ⟨v, rfl, r⟩ := q.one
    cases r
    have e : z = .str x := e
    subst e
    exact .inr ⟨x, rfl, k _ H (Same.refl _) (show V.str _ = V.str _ from rfl)⟩
theorem qe_strc (hg : Gl X "str") (hm : X.mg "str" = none) (ha : QA J X [e] ws) (he : starEach [e] X.env = (false, eval e X.env) :: starEach [] X.env := by rfl) (hpl : (backTo pos (starEach [] X.env)).any (·.1) = false := by rfl) : QE J X (.Call (.Name "str" p) [e] [] pos) (wCB fStr ws) :=
  qe_ct call_strB cd_str hg hm PySem.Pv.boot_str ha (by decide) (by decide) he hpl
end
end Dw
set_option Elab.async false
set_option linter.all false
set_option maxRecDepth 100000
set_option maxHeartbeats 4000000
/-! Dv3: xs.extend of any list or tuple. -/
namespace Dw
open PySem PySem.Spec PyProof.Rows L2
theorem meets_ext (l : Addr) (items : Array Value) (n : Nat) (b : Addr) (ob : Obj) (T : String) (items2 : Array Value) (n2 : Nat) (hT : T = "list" ∨ T = "tuple") (hl0 : ¬(!items.isEmpty && Builtin.List.listTooLong (items.size + items2.size)) = true) (hz1 : items.size ≤ sizeLine) (hz2 : items.size + items2.size ≤ sizeLine + 1) :
    Meets (Builtin.«list.extend» ⟨[.ref l, .ref b], []⟩) (fun _ R s => (s.heap.get? l = some { cls := .type "list", dict := none, data := .seq items n, slots := #[] }) ∧ (s.heap.get? b = some ob ∧ ob.cls = .type T ∧ ob.data = .seq items2 n2) ∧ R (.ok (.ret Value.none)) { s with heap := s.heap.update l (Obj.mapSeq fun x => x ++ items2), toks := s.toks }) := by
  refine .of_wp fun prog w A R s h => ?_
  obtain ⟨hl, ⟨hb, hc, hd⟩, h⟩ := h
  show wpAny _ _ (Builtin.List.listExtendWith (.ref l) (.ref b) .none) _ _ s
  unfold Builtin.List.listExtendWith
  refine wpAny_bind (wpAny_typeOf (T := T) ⟨ob, hb, hc⟩ ?_)
  have ht : (Builtin.List.listSameRef (.ref l) (.ref b) || Value.type T == .type "list" || Value.type T == .type "tuple") = true := by
    rcases hT with rfl | rfl <;> simp
  rw [if_pos ht]
  refine wpAny_bind (listItems_at hb hd (wpAny_bind (listItems_at hl rfl ?_)))
  rw [if_neg hl0]
  refine wpAny_bind (listUpdate_at hl rfl ?_ hz1 (by rw [Array.size_append]; exact hz2))
  exact wpAny_pure ⟨_, rfl, h⟩
def rExtS (K : PySem.W.Frag) : V → List V → Hp → VK → Prop := fun x vs H Q => ∃ l b xs zs, x = .ref l ∧ vs = [.ref b] ∧ H l = some (.lst xs) ∧ (SqL K H b zs ∨ SqT K H b zs) ∧ xs.length + zs.length ≤ sizeLine ∧ Q .non (upd H l (.lst (xs ++ zs)))
theorem mt_extS {X : Cx} : MtM X "list.extend" (rExtS X.K) := by
  intro pins s σ H x vs v us Q I rx rv h
  obtain ⟨l, b, xs, zs, rfl, rfl, hH, hB, hz, q⟩ := h
  cases rx
  obtain ⟨u, rfl, ru⟩ := rv.one
  cases ru
  obtain ⟨z, its, n, r, hl, e⟩ := I.lstM hH
  obtain ⟨its2, r2, T, ob, n2, hT, e2, hc, hd⟩ : ∃ its2 : List Value, Vals zs its2 ∧ ∃ (T : String) (ob : Obj) (n2 : Nat), (T = "list" ∨ T = "tuple") ∧ s.heap.get? b = some ob ∧ ob.cls = .type T ∧ ob.data = .seq its2.toArray n2 := by
    rcases hB with hB | hB
    · obtain ⟨its2, r2, ⟨o, m, e2, hc, _, hd⟩, _⟩ := I.list hB
      exact ⟨its2, r2, "list", o, m, .inl rfl, e2, hc, hd⟩
    · obtain ⟨its2, r2, ⟨o, e2, hc, m, hd⟩, _⟩ := I.tuple hB
      exact ⟨its2, r2, "tuple", o, m, .inr rfl, e2, hc, hd⟩
  have hl2 := r2.length
  have hl0 := r.length
  have hsz : its.toArray.size + its2.toArray.size ≤ sizeLine := by rw [List.size_toArray, List.size_toArray]; omega
  have hlong : ¬ (!its.toArray.isEmpty && Builtin.List.listTooLong (its.toArray.size + its2.toArray.size)) = true := by
    rw [notLongL hsz, Bool.and_false]
    exact Bool.false_ne_true
  refine call_meets PySem.F.slot_list_extend ⟨_, e, rfl⟩ PySem.F.entry_list_extend (PySem.F.args_list_extend_2 _ _)
    (meets_ext l its.toArray n b ob T its2.toArray n2 hT hlong (by rw [List.size_toArray]; omega) (by omega)) ⟨e, ⟨e2, hc, hd⟩, ?_⟩
  refine ⟨.non, _, I.lset (its' := its ++ its2) hH e (by simp) (r.append r2) ?_, rfl, q⟩
  rw [List.length_append]
  omega
section
variable {X : Cx} {J : Bs} {e i z : Expr} {we wd wk wz : WE} {pos : Pos}
/-- xs.extend(row) of any row of data -/
def wExtA (wo we : WE) : WE := fun env M Q => wo env M fun o M1 => ∃ k, o = .o k ∧ (∃ mo0, M1[k]? = some mo0 ∧ ∃ ds0, mo0.ls = some ds0) ∧ we env M1 fun r M2 => ∃ mo, M2[k]? = some mo ∧ ∃ ds, mo.ls = some ds ∧ ∃ a, r = .d a ∧ ∃ es, a.items = some es ∧ ds.length + es.length ≤ sizeLine ∧ Q (.d .non) (M2.set k (mo.put (ds ++ es)))
theorem qe_extendA {o : Expr} {wo : WE} {apos : Pos} (ho : QE J X o wo) (he : QE J X e we) (hbase : attributeBase o "extend" X.env (eval o X.env) = eval o X.env := by rfl)
    (hfew : ((backTo pos (starEach [e] X.env)).all (fun x => !x.1) && (backToKw pos (keywordEach [] X.env)).all (fun x => x.1.isSome)
      && decide (([e] : List Expr).length + ([] : List Keyword).length + (if ([] : List Keyword).isEmpty then 0 else 1) < 30)) = true := by rfl)
    (hline : (apos.endLine == pos.line) = true := by rfl) (hs : starEach [e] X.env = (false, eval e X.env) :: starEach [] X.env := by rfl) (hplain : (backTo pos (starEach [] X.env)).any (·.1) = false := by rfl) :
    QE J X (.Call (.Attribute o "extend" apos) [e] [] pos) (wExtA wo we) := by
  obtain ⟨to, po, do_⟩ := ho
  obtain ⟨te, pe, de⟩ := he
  refine ⟨_, pe_bm PySem.F.plainAttrs_list PySem.F.slot_list_extend PySem.F.type_list_extend mt_extS po (pa_cons pe pa_nil hs) hbase hfew hline hs hplain, fun env M Q hw S A σ H R st en k => ?_⟩
  refine do_ env M _ hw S A σ H _ st en fun v H1 o1 M1 A1 p1 s1 q1 ⟨i, e1, ⟨mo0, e2, ds0, e2'⟩, hw1⟩ => ?_
  subst e1
  obtain ⟨x, hx, rfl⟩ := q1
  obtain ⟨vs0, g0, _⟩ := (s1.mem i _ x e2 hx).lsD e2'
  refine ⟨.inl ⟨rfl, vs0, .inl (.inl g0)⟩, ?_⟩
  refine de env M1 _ hw1 S A1 σ H1 _ s1 (en.mono p1) fun u H2 r' M2 A2 p2 s2 q2 ⟨mo, e3, ds, e3', a, e4, es, e5, hz, hq⟩ => ?_
  subst e4
  obtain ⟨b, us, rfl, hb, rb⟩ : ∃ b us, u = .ref b ∧ (SqL X.K (view S A2 H2) b us ∨ SqT X.K (view S A2 H2) b us) ∧ Reps X.K (view S A2 H2) es us := by
    cases a with
    | lst es' => cases e5; obtain ⟨b, us, e, h1, h2⟩ := q2; exact ⟨b, us, e, .inl h1, h2⟩
    | tup es' => cases e5; obtain ⟨b, us, e, h1, h2⟩ := q2; exact ⟨b, us, e, .inr h1, h2⟩
    | _ => cases e5
  have hx2 : A2[i]? = some x := by
    obtain ⟨t, ht⟩ := p2.pre
    rw [← ht, List.getElem?_append_left (List.getElem?_eq_some_iff.mp hx).1]
    exact hx
  obtain ⟨vs, g1, g2⟩ := (s2.mem i _ x e3 hx2).lsD e3'
  refine ⟨x, b, vs, us, rfl, rfl, g1, hb.imp (same_l off_sub) (same_t off_sub), by rw [g2.len, rb.len]; exact hz, ?_⟩
  obtain ⟨s4, p4⟩ := s2.set (o := .lst (vs ++ us)) (mo := mo.put (ds ++ es)) hx2 ((s2.mem i _ x e3 hx2).put e3' upd_same (by rw [view_set (List.mem_of_getElem? hx2)]; exact Reps.app g2 rb))
  exact k .non _ (.d .non) _ A2 ((p1.trans p2).trans p4) s4 (show V.non = V.non from rfl) hq
/-- the place of the first equal one -/
def idxD : List D → D → Option Nat
  | [], _ => none
  | x :: xs, y => if x.feq y = true then some 0 else (idxD xs y).map (· + 1)
theorem idxD_some : ∀ {ds : List D} {y : D} {j : Nat}, idxD ds y = some j → ∃ z, ds[j]? = some z ∧ z.feq y = true ∧ ∀ m z', m < j → ds[m]? = some z' → z'.feq y = false
  | [], _, _, h => by cases h
  | x :: xs, y, j, h => by
    unfold idxD at h
    by_cases hx : x.feq y = true
    · rw [if_pos hx] at h
      cases h
      exact ⟨x, rfl, hx, fun m _ hm => absurd hm (Nat.not_lt_zero _)⟩
    · rw [if_neg hx] at h
      cases hi : idxD xs y with
      | none => rw [hi] at h; cases h
      | some k =>
        rw [hi] at h
        cases h
        obtain ⟨z, h1, h2, h3⟩ := idxD_some hi
        refine ⟨z, h1, h2, fun m z' hm hz => ?_⟩
        cases m with
        | zero => cases hz; exact Bool.eq_false_iff.mpr hx
        | succ m => exact h3 m z' (by have hm : m + 1 < k + 1 := hm; omega) hz
/-- xs.index(y) of a list -/
def wIndex (wo we : WE) : WE := fun env M Q => wo env M fun o M1 => (∃ ds0, o.dat M1 = some (.lst ds0)) ∧ we env M1 fun r M2 => ∃ ds, o.dat M2 = some (.lst ds) ∧ ∃ y, r = .d y ∧ y.flat = true ∧ ds.all D.flat = true ∧ ∃ j, idxD ds y = some j ∧ Q (.d (.int j)) M2
theorem qe_index {o : Expr} {wo : WE} {apos : Pos} (ho : QE J X o wo) (he : QE J X e we) (hbase : attributeBase o "index" X.env (eval o X.env) = eval o X.env := by rfl)
    (hfew : ((backTo pos (starEach [e] X.env)).all (fun x => !x.1) && (backToKw pos (keywordEach [] X.env)).all (fun x => x.1.isSome)
      && decide (([e] : List Expr).length + ([] : List Keyword).length + (if ([] : List Keyword).isEmpty then 0 else 1) < 30)) = true := by rfl)
    (hline : (apos.endLine == pos.line) = true := by rfl) (hs : starEach [e] X.env = (false, eval e X.env) :: starEach [] X.env := by rfl) (hplain : (backTo pos (starEach [] X.env)).any (·.1) = false := by rfl) :
    QE J X (.Call (.Attribute o "index" apos) [e] [] pos) (wIndex wo we) := by
  obtain ⟨to, po, do_⟩ := ho
  obtain ⟨te, pe, de⟩ := he
  refine ⟨_, pe_bm PySem.F.plainAttrs_list PySem.F.slot_list_index PySem.F.type_list_index mt_index po (pa_cons pe pa_nil hs) hbase hfew hline hs hplain, fun env M Q hw S A σ H R st en k => ?_⟩
  refine do_ env M _ hw S A σ H _ st en fun v H1 o1 M1 A1 p1 s1 q1 ⟨⟨ds0, e1⟩, hw1⟩ => ?_
  obtain ⟨a, vs0, rfl, g0, _⟩ := s1.dat q1 e1
  refine ⟨.inl ⟨rfl, vs0, g0⟩, ?_⟩
  refine de env M1 _ hw1 S A1 σ H1 _ s1 (en.mono p1) fun u H2 r' M2 A2 p2 s2 q2 ⟨ds, e2, y, e3, f1, f2, j, e4, hq⟩ => ?_
  subst e3
  obtain ⟨a', ys, e5, g1, g2⟩ := s2.dat (q1.mono p2) e2
  cases e5
  obtain ⟨z, z1, z2, z3⟩ := idxD_some e4
  obtain ⟨zv, zv1, zv2⟩ := Reps.get g2 z1
  have fz : z.flat = true := List.all_eq_true.mp f2 z (List.mem_of_getElem? z1)
  refine ⟨a, ys, u, j, zv, rfl, rfl, g1, Rep.flat q2 f1, Reps.flat g2 f2, zv1, by rw [feq_eq zv2 q2 fz f1]; exact z2, fun m z' hm hz' => ?_, ?_⟩
  · have hlt := (List.getElem?_eq_some_iff.mp hz').1
    rw [g2.len] at hlt
    obtain ⟨w, w1, w2⟩ := Reps.get g2 (List.getElem?_eq_getElem hlt)
    rw [hz'] at w1
    cases w1
    have fw : (ds[m]).flat = true := List.all_eq_true.mp f2 _ (List.getElem_mem hlt)
    rw [feq_eq w2 q2 fw f1]
    exact z3 m _ hm (List.getElem?_eq_getElem hlt)
  · exact k _ H2 (.d (.int j)) M2 A2 (p1.trans p2) s2 (show V.int j = V.int j from rfl) hq
/-- xs.insert(i, y), 0 ≤ i -/
def wInsert (wo wi we : WE) : WE := fun env M Q => wo env M fun o M1 => ∃ k, o = .o k ∧ (∃ mo0, M1[k]? = some mo0 ∧ ∃ ds0, mo0.ls = some ds0) ∧ wi env M1 fun ri M2 => we env M2 fun r M3 => ∃ i, ri = .d (.int i) ∧ 0 ≤ i ∧ i < 2 ^ 63 ∧ ∃ d, r = .d d ∧ ∃ mo, M3[k]? = some mo ∧ ∃ ds, mo.ls = some ds ∧ ds.length < sizeLine ∧ Q (.d .non) (M3.set k (mo.put (ds.take i.toNat ++ [d] ++ ds.drop i.toNat)))
theorem Reps.take' {K : PySem.W.Frag} {h : Hp} : ∀ {ds : List D} {vs : List V} (n : Nat), Reps K h ds vs → Reps K h (ds.take n) (vs.take n) ∧ Reps K h (ds.drop n) (vs.drop n)
  | [], _, n, r => by cases r; simp [Reps]
  | d :: ds, vs, 0, r => ⟨rfl, r⟩
  | d :: ds, _, n + 1, ⟨v, us, rfl, r1, r2⟩ => ⟨⟨v, us.take n, rfl, r1, (Reps.take' n r2).1⟩, (Reps.take' n r2).2⟩
theorem qe_insert {o : Expr} {wo : WE} {apos : Pos} (ho : QE J X o wo) (hi : QE J X i wk) (he : QE J X e we) (hbase : attributeBase o "insert" X.env (eval o X.env) = eval o X.env := by rfl)
    (hfew : ((backTo pos (starEach [i, e] X.env)).all (fun x => !x.1) && (backToKw pos (keywordEach [] X.env)).all (fun x => x.1.isSome)
      && decide (([i, e] : List Expr).length + ([] : List Keyword).length + (if ([] : List Keyword).isEmpty then 0 else 1) < 30)) = true := by rfl)
    (hline : (apos.endLine == pos.line) = true := by rfl) (hs : starEach [i, e] X.env = (false, eval i X.env) :: starEach [e] X.env := by rfl) (hs2 : starEach [e] X.env = (false, eval e X.env) :: starEach [] X.env := by rfl) (hplain : (backTo pos (starEach [e] X.env)).any (·.1) = false := by rfl) :
    QE J X (.Call (.Attribute o "insert" apos) [i, e] [] pos) (wInsert wo wk we) := by
  obtain ⟨to, po, do_⟩ := ho
  obtain ⟨ti, pi, di⟩ := hi
  obtain ⟨te, pe, de⟩ := he
  refine ⟨_, pe_bm PySem.F.plainAttrs_list PySem.F.slot_list_insert PySem.F.type_list_insert mt_insert po (pa_cons pi (pa_cons pe pa_nil hs2) hs) hbase hfew hline hs hplain, fun env M Q hw S A σ H R st en k => ?_⟩
  refine do_ env M _ hw S A σ H _ st en fun v H1 o1 M1 A1 p1 s1 q1 ⟨kk, e1, ⟨mo0, e2, ds0, e2'⟩, hw1⟩ => ?_
  subst e1
  obtain ⟨x, hx, rfl⟩ := q1
  obtain ⟨vs0, g0, _⟩ := (s1.mem kk _ x e2 hx).lsD e2'
  refine ⟨.inl ⟨rfl, vs0, .inl (.inl g0)⟩, ?_⟩
  refine di env M1 _ hw1 S A1 σ H1 _ s1 (en.mono p1) fun u1 H2 ri M2 A2 p2 s2 q2 hw2 => ?_
  refine de env M2 _ hw2 S A2 σ H2 _ s2 ((en.mono p1).mono p2) fun u H3 r' M3 A3 p3 s3 q3 ⟨n, e3, n0, n1, d, e4, mo, e5, ds, e6, hz, hq⟩ => ?_
  subst e3 e4
  cases q2
  have pp := p2.trans p3
  have hx3 : A3[kk]? = some x := by
    obtain ⟨t, ht⟩ := pp.pre
    rw [← ht, List.getElem?_append_left (List.getElem?_eq_some_iff.mp hx).1]
    exact hx
  obtain ⟨vs, g1, g2⟩ := (s3.mem kk _ x e5 hx3).lsD e6
  refine ⟨x, vs, n, u, rfl, rfl, g1, by rw [g2.len]; exact hz, n0, n1, ?_⟩
  obtain ⟨s4, p4⟩ := s3.set (o := .lst (vs.take n.toNat ++ [u] ++ vs.drop n.toNat)) (mo := mo.put (ds.take n.toNat ++ [d] ++ ds.drop n.toNat)) hx3 ((s3.mem kk _ x e5 hx3).put e6 upd_same (by
    rw [view_set (List.mem_of_getElem? hx3)]
    exact Reps.app (Reps.app (Reps.take' _ g2).1 (Reps.one q3)) (Reps.take' _ g2).2))
  exact k .non _ (.d .non) _ A3 ((p1.trans pp).trans p4) s4 (show V.non = V.non from rfl) hq
theorem qe_band {a b : Expr} {wa wb : WE} {pos : Pos} (ha : QE J X a wa) (hb : QE J X b wb) : QE J X (.BinOp a .BitAnd b pos) (wOp (dI0 fun i j => .int (Builtin.bitAnd i j)) wa wb) := by
  obtain ⟨ta, pa, da⟩ := ha
  obtain ⟨tb, pb, db⟩ := hb
  exact ⟨_, pe_op op_and pa pb, dn_op (op2_I0 fun _ _ _ => rfl) da db⟩
theorem qe_bor {a b : Expr} {wa wb : WE} {pos : Pos} (ha : QE J X a wa) (hb : QE J X b wb) : QE J X (.BinOp a .BitOr b pos) (wOp (dI0 fun i j => .int (Builtin.bitOr i j)) wa wb) := by
  obtain ⟨ta, pa, da⟩ := ha
  obtain ⟨tb, pb, db⟩ := hb
  exact ⟨_, pe_op op_or pa pb, dn_op (op2_I0 fun _ _ _ => rfl) da db⟩
theorem qe_bxor {a b : Expr} {wa wb : WE} {pos : Pos} (ha : QE J X a wa) (hb : QE J X b wb) : QE J X (.BinOp a .BitXor b pos) (wOp (dI0 fun i j => .int (Builtin.bitXor i j)) wa wb) := by
  obtain ⟨ta, pa, da⟩ := ha
  obtain ⟨tb, pb, db⟩ := hb
  exact ⟨_, pe_op op_xor pa pb, dn_op (op2_I0 fun _ _ _ => rfl) da db⟩
end
theorem dct_eq {kvs : List (Key × D)} {ks : List Key} {ds : List D} : (dDct kvs = .dct ks ds) = (kvs.map (·.1) = ks ∧ kvs.map (·.2) = ds) := by
  unfold dDct; rw [D.dct.injEq]
theorem zip_get {kvs : List (Key × D)} {key : Key} : dGetK ((kvs.map (·.1)).zip (kvs.map (·.2))) key = dGetK kvs key := by rw [zip_parts]
theorem dictOf_dct {kvs : List (Key × D)} : dictOf (dDct kvs) = some kvs := by
  show some ((kvs.map (·.1)).zip (kvs.map (·.2))) = _
  rw [zip_parts]
theorem dictOf_l {ds : List D} : dictOf (.lst ds) = (pairsK ds).map (dMerge []) := rfl
/-- a row of pairs with keys of their own, as a dict -/
theorem pairsK_map {α : Type} {f : α → D} {k : α → Key} {g : α → D} (h : ∀ x, pairK (f x) = some (k x, g x)) : ∀ l : List α, pairsK (l.map f) = some (l.map fun x => (k x, g x))
  | [] => rfl
  | x :: l => by
    show (match pairK (f x), pairsK (l.map f) with | some p, some ps => some (p :: ps) | _, _ => none) = _
    rw [h, pairsK_map h l]; rfl
theorem dMerge_nodup : ∀ {kvs acc : List (Key × D)}, ((acc ++ kvs).map (·.1)).Nodup → dMerge acc kvs = acc ++ kvs
  | [], acc, _ => by simp [dMerge]
  | (k, d) :: kvs, acc, h => by
    have hk : dGetK acc k = none := by
      unfold dGetK
      rw [Option.map_eq_none_iff, List.find?_eq_none]
      intro x hx e
      rw [List.map_append, List.nodup_append] at h
      exact h.2.2 x.1 (List.mem_map.mpr ⟨x, hx, rfl⟩) k (by simp) (by simpa using e)
    have e : dPutK acc k d = acc ++ [(k, d)] := by unfold dPutK; rw [hk]; rfl
    show dMerge (dPutK acc k d) kvs = _
    rw [e, dMerge_nodup (by simpa using h), List.append_assoc]; rfl
theorem rx0 : type_of% @wDispD.eq_1 := @wDispD.eq_1
theorem rx1 : type_of% @wDispO.eq_1 := @wDispO.eq_1
theorem rx2 : type_of% @wPairs.eq_1 := @wPairs.eq_1
theorem rx3 : type_of% @wPairs.eq_2 := @wPairs.eq_2
theorem rx4 : type_of% @wDictD.eq_1 := @wDictD.eq_1
theorem rx5 : type_of% @wDictO.eq_1 := @wDictO.eq_1
theorem rx6 : type_of% @wExtA.eq_1 := @wExtA.eq_1
theorem rx7 : type_of% @wIndex.eq_1 := @wIndex.eq_1
theorem rx8 : type_of% @wInsert.eq_1 := @wInsert.eq_1
theorem rx9 : type_of% @dct_eq := @dct_eq
theorem rx10 : type_of% @zip_get := @zip_get
theorem rx11 : type_of% @dictOf_dct := @dictOf_dct
theorem rx12 : type_of% @dictOf_l := @dictOf_l
theorem str_i {i : Int} {z : D} : fStr [.int i] z = (i.natAbs.log2 < 1920 ∧ z = .str (toString i)) := rfl
theorem str_s {x : Str} {z : D} : fStr [.str x] z = (z = .str x) := rfl
theorem rx13 : type_of% @str_i := @str_i
theorem rx14 : type_of% @str_s := @str_s
end Dw
set_option Elab.async false
set_option linter.all false
set_option maxRecDepth 100000
set_option maxHeartbeats 4000000
/-! Dv4: xs[::-1] of a list, as a list that changes. -/
namespace Dw
open PySem PySem.Spec PyProof.Rows L2
section
variable {X : Cx} {J : Bs} {e k : Expr} {we wk : WE} {pos p2 : Pos}
def wBackO (we wk : WE) : WE := fun env M Q => we env M fun r M1 => wk env M1 fun y M2 => y = .d (.int (-1)) ∧ ∃ ds, r.dat M2 = some (.lst ds) ∧ Q (.o M2.length) (M2 ++ [.lst ds.reverse])
theorem qe_backO (he : QE J X e we) (hk : QE J X k wk) (hsub : ∀ o i : Value, ∃ ops, subscripted (.Slice none none (some k) p2) false o i = operate ops (getItem o i) := by intro o i; first | exact ⟨[i, o], by with_unfolding_all rfl⟩ | exact ⟨[o, i], by with_unfolding_all rfl⟩ | exact ⟨[], by with_unfolding_all rfl⟩) : QE J X (.Subscript e (.Slice none none (some k) p2) pos) (wBackO we wk) := by
  obtain ⟨te, pe, de⟩ := he
  obtain ⟨tk, pk, dk⟩ := hk
  refine ⟨_, pe_back pe pk hsub, fun env M Q hw S A σ H R st en kk => ?_⟩
  refine de env M _ hw S A σ H _ st en fun v H1 r M1 A1 p1 s1 q1 hw1 => ?_
  refine dk env M1 _ hw1 S A1 σ H1 _ s1 (en.mono p1) fun u H2 y M2 A2 p2 s2 q2 ⟨ey, ds, ex, hq⟩ => ?_
  subst ey
  cases q2
  refine ⟨rfl, ?_⟩
  obtain ⟨a, vs, rfl, h1, h2⟩ := s2.dat (q1.mono p2) ex
  refine ⟨a, vs, rfl, .inl ⟨h1, fun p hp => ?_⟩⟩
  obtain ⟨s3, p3⟩ := s2.new (mo := .lst ds.reverse) (o := .lst vs.reverse) hp ⟨vs.reverse, upd_same, Reps.rev (Reps.mono (view_new hp) _ _ h2)⟩
  exact kk _ _ (.o M2.length) _ _ ((p1.trans p2).trans p3) s3 ⟨p, by rw [← s2.len, List.getElem?_append_right (Nat.le_refl _)]; simp, rfl⟩ hq
end
theorem cut_end {α : Type} (xs : List α) : cutD xs (some (-1)) none = xs.drop (xs.length - 1) := by
  unfold cutD
  have e : HT.sIx xs.length 0 (some (-1)) = xs.length - 1 := by
    show (if (-1 : Int) < 0 then ((-1 : Int) + (xs.length : Int)).toNat else min (-1 : Int).toNat xs.length) = _
    rw [if_pos (by decide)]; omega
  rw [e, HT.sIx_none, List.take_of_length_le (by simp)]
def srtI (l : List Int) : List Int := l.mergeSort fun a b => dLeB (.int a) (.int b)
theorem srtI_perm (l : List Int) : (srtI l).Perm l := List.mergeSort_perm _ _
theorem srtI_s (ws : List Int) : fSorted [.lst (ws.map .int)] (.lst ((srtI ws).map .int)) ∧ fSorted [.tup (ws.map .int)] (.lst ((srtI ws).map .int)) := by
  have e : D.pys (ws.map .int) = some (ws.map PyData.int) := by
    induction ws with
    | nil => rfl
    | cons w ws ih => simp [D.pys, D.py, ih]
  have o : SrtOk (ws.map PyData.int) := by
    have := OneKind.ok (ks := ws.map .inl) (.inl ⟨ws, rfl⟩)
    rw [List.map_map] at this; exact this
  have m := List.map_mergeSort (f := D.int) (r := fun a b => dLeB (.int a) (.int b)) (s := dLeB) (l := ws) fun _ _ _ _ => rfl
  exact ⟨⟨_, _, rfl, e, o, by rw [srtI, m]⟩, ⟨_, _, rfl, e, o, by rw [srtI, m]⟩⟩
theorem dLeB_int {a b : Int} : dLeB (.int a) (.int b) = decide (a ≤ b) := by
  rw [show dLeB (.int a) (.int b) = PySem.W.dataLe false (fun b : Int => PyData.int b) a b from rfl, PySem.W.dataLe_int (fun b : Int => b)]
theorem srtI_asc (l : List Int) : (srtI l).Pairwise fun a b => a ≤ b := by
  have h := List.pairwise_mergeSort (le := fun a b : Int => dLeB (.int a) (.int b)) (fun a b c h1 h2 => by rw [dLeB_int] at *; simp at *; omega) (fun a b => by rw [dLeB_int, dLeB_int]; simp; omega) l
  exact h.imp fun h => by rw [dLeB_int] at h; simpa using h
theorem asc_perm : ∀ {a b : List Int}, a.Pairwise (fun a b => a ≤ b) → b.Pairwise (fun a b => a ≤ b) → a.Perm b → a = b
  | [], b, _, _, p => (List.Perm.eq_nil p.symm).symm
  | x :: a, [], _, _, p => by have := p.length_eq; simp at this
  | x :: a, y :: b, ha, hb, p => by
    have h1 := List.pairwise_cons.mp ha
    have h2 := List.pairwise_cons.mp hb
    have e : x = y := by
      have hx : x ∈ y :: b := p.mem_iff.mp List.mem_cons_self
      have hy : y ∈ x :: a := p.mem_iff.mpr List.mem_cons_self
      rcases List.mem_cons.mp hx with e | hx
      · exact e
      · rcases List.mem_cons.mp hy with e | hy
        · exact e.symm
        · have := h1.1 y hy
          have := h2.1 x hx
          omega
    subst e
    rw [asc_perm h1.2 h2.2 (List.Perm.cons_inv p)]
theorem srtI_congr {a b : List Int} (p : a.Perm b) : srtI a = srtI b := asc_perm (srtI_asc a) (srtI_asc b) ((srtI_perm a).trans (p.trans (srtI_perm b).symm))
theorem enum_map {α : Type} {f : α → D} (z : α) (l : List α) : enumD (l.map f) = (List.range l.length).map fun i => .tup [.int i, f (l.getD i z)] := by
  refine List.ext_getElem? fun i => ?_
  rw [enumD_at, List.getElem?_map, List.getElem?_map]
  by_cases h : i < l.length
  · rw [List.getElem?_eq_getElem h, List.getElem?_range h]
    simp [List.getD_eq_getElem?_getD, List.getElem?_eq_getElem h]
  · rw [List.getElem?_eq_none (by omega), List.getElem?_eq_none (by simp; omega)]; rfl
/-- sum of a list, of a tuple -/
def fSumB (ds : List D) (z : D) : Prop := ∃ ns : List Int, (ds = [.lst (ns.map .int)] ∨ ds = [.tup (ns.map .int)]) ∧ z = .int ns.sum
def rSumB (K : PySem.W.Frag) : List V → Hp → VK → Prop := fun vs H Q => ∃ (a : Addr) (ns : List Int), vs = [V.ref a] ∧ (SqL K H a (ns.map V.int) ∨ SqT K H a (ns.map V.int)) ∧ Q (.int ns.sum) H
theorem cr_sumB {X : Cx} (hc : X.calm = true) : CallR X (.builtin "sum") (rSumB X.K) := by
  intro pins s σ H vs us Q I r h
  obtain ⟨a, ns, rfl, hs, q⟩ := h
  rcases hs with hs | hs
  · exact cr_sum hc pins s σ H _ us Q I r ⟨a, ns, rfl, hs, q⟩
  · obtain ⟨its, rv, ⟨o, ho, hcl, n, hd⟩, _⟩ := I.tuple hs
    rw [Vals.ref1 r]
    obtain ⟨xs, hx⟩ := rv.ints.allInts.items
    have hn : numsOf its.toArray.toList = ns := by rw [show its.toArray.toList = its from rfl, rv.ints.numsOf]
    rw [hx] at hn hd
    rw [nums_intItems] at hn
    refine PySem.W.ktm_sumG (I.ok.hd hc) ⟨o, ho, hcl, n, hd⟩ fun h' tk t' hk => ?_
    rw [preSum_eq, List.take_of_length_le (by simp), hn]
    exact ⟨.int _, H, I.kept hk, ⟨_, rfl⟩, q⟩
theorem cd_sumB {K : PySem.W.Frag} : CallD K (rSumB K) fSumB := by
  intro S A M H ds z vs R st q e k
  obtain ⟨ns, e, rfl⟩ := e
  rcases e with rfl | rfl
  · obtain ⟨v, rfl, a, us, rfl, h1, h2⟩ := q.one
    rw [h2.ints] at h1
    exact ⟨a, ns, rfl, .inl h1, k _ H (Same.refl _) rfl⟩
  · obtain ⟨v, rfl, a, us, rfl, h1, h2⟩ := q.one
    rw [h2.ints] at h1
    exact ⟨a, ns, rfl, .inr (same_t off_sub h1), k _ H (Same.refl _) rfl⟩
theorem qe_sumB {X : Cx} {J : Bs} {e : Expr} {ws : WA} {p pos : Pos} (hc : X.calm = true) (hg : Gl X "sum") (hm : X.mg "sum" = none) (ha : QA J X [e] ws) (he : starEach [e] X.env = (false, eval e X.env) :: starEach [] X.env := by rfl) (hpl : (backTo pos (starEach [] X.env)).any (·.1) = false := by rfl) : QE J X (.Call (.Name "sum" p) [e] [] pos) (wCB fSumB ws) :=
  qe_cb (cr_sumB hc) cd_sumB hg hm boot_sum ha (by decide) (by decide) he hpl
theorem fSumB_l {ns : List Int} : fSumB [.lst (ns.map .int)] (.int ns.sum) := ⟨ns, .inl rfl, rfl⟩
theorem fSumB_t {ns : List Int} : fSumB [.tup (ns.map .int)] (.int ns.sum) := ⟨ns, .inr rfl, rfl⟩
theorem fSumB_map {α : Type} {f : α → Int} {l : List α} : fSumB [.lst (l.map fun x => .int (f x))] (.int (l.map f).sum) := by
  have : l.map (fun x => D.int (f x)) = (l.map f).map .int := by rw [List.map_map]; rfl
  rw [this]; exact fSumB_l
theorem dGet_put {kvs : List (Key × D)} {k : Key} {d : D} : dGetK (dPutK kvs k d) k = some d := by
  unfold dPutK
  split
  · rename_i h
    unfold dGetK at h ⊢
    rw [List.find?_map]
    cases hf : kvs.find? (fun kv => decide (kv.1 = k)) with
    | none => rw [hf] at h; cases h
    | some kv =>
      have e : ((fun kv : Key × D => decide (kv.1 = k)) ∘ fun kv : Key × D => if kv.1 = k then (kv.1, d) else kv) = fun kv => decide (kv.1 = k) := by
        funext kv
        simp only [Function.comp]
        split <;> simp_all
      rw [e, hf]
      have := List.find?_some hf
      simp at this
      simp [this]
  · rename_i h
    have hn : kvs.find? (fun kv => decide (kv.1 = k)) = none := by
      unfold dGetK at h
      cases hf : kvs.find? (fun kv => decide (kv.1 = k)) with
      | none => rfl
      | some kv => rw [hf] at h; simp at h
    unfold dGetK
    rw [List.find?_append, hn]
    simp
theorem mem_dPutK {kvs : List (Key × D)} {k : Key} {d : D} {kv : Key × D} (h : kv ∈ dPutK kvs k d) : kv = (k, d) ∨ kv ∈ kvs := by
  unfold dPutK at h
  split at h
  · obtain ⟨kv', h1, rfl⟩ := List.mem_map.mp h
    split
    · rename_i e; exact .inl (by rw [e])
    · exact .inr h1
  · rcases List.mem_append.mp h with h | h
    · exact .inr h
    · exact .inl (by simpa using h)
theorem keys_dPutK {kvs : List (Key × D)} {k : Key} {d : D} (h : (dGetK kvs k).isSome = true) : (dPutK kvs k d).map (·.1) = kvs.map (·.1) := by
  unfold dPutK
  rw [if_pos h, List.map_map]
  refine List.map_congr_left fun kv _ => ?_
  simp only [Function.comp]
  split
  · rfl
  · rfl
theorem dGet_mem {kvs : List (Key × D)} {k : Key} (h : k ∈ kvs.map (·.1)) : (dGetK kvs k).isSome = true := by
  obtain ⟨kv, h1, rfl⟩ := List.mem_map.mp h
  unfold dGetK
  rw [Option.isSome_map, List.find?_isSome]
  exact ⟨kv, h1, by simp⟩
theorem dPutK_nodup {kvs : List (Key × D)} {k : Key} {d : D} (h : (kvs.map (·.1)).Nodup) : ((dPutK kvs k d).map (·.1)).Nodup := by
  by_cases hs : (dGetK kvs k).isSome = true
  · rw [keys_dPutK hs]; exact h
  · unfold dPutK
    rw [if_neg hs, List.map_append, List.nodup_append]
    refine ⟨h, by simp, fun a ha b hb e => hs (dGet_mem ?_)⟩
    have hb' : b = k := by simpa using hb
    rw [← hb', ← e]; exact ha
theorem ry0 : type_of% @wBackO.eq_1 := @wBackO.eq_1
end Dw
set_option Elab.async false
set_option linter.all false
set_option maxRecDepth 100000
set_option maxHeartbeats 4000000
/-! Dv5: tuple(reversed(xs)) of a list. -/
namespace Dw
open PySem PySem.Spec PyProof.Rows L2
section
variable {X : Cx} {J : Bs} {e : Expr} {we : WE} {p p2 pos pos2 : Pos}
def wTupRev (we : WE) : WE := fun env M Q => we env M fun r M1 => ∃ ds, r.dat M1 = some (.lst ds) ∧ Q (.d (.tup ds.reverse)) M1
theorem qe_tupRev (hc : X.calm = true) (hg : Gl X "tuple") (hm : X.mg "tuple" = none) (hg2 : Gl X "reversed") (hm2 : X.mg "reversed" = none) (he : QE J X e we)
    (hs : starEach [e] X.env = (false, eval e X.env) :: starEach [] X.env := by rfl)
    (hs2 : starEach [.Call (.Name "reversed" p2) [e] [] pos2] X.env = (false, eval (.Call (.Name "reversed" p2) [e] [] pos2) X.env) :: starEach [] X.env := by rfl) :
    QE J X (.Call (.Name "tuple" p) [.Call (.Name "reversed" p2) [e] [] pos2] [] pos) (wTupRev we) := by
  obtain ⟨te, pe, de⟩ := he
  refine ⟨_, RT.pe_tupRev hc hg hm hg2 hm2 pe hs hs2, fun env M Q hw S A σ H R st en kk => ?_⟩
  refine de env M _ hw S A σ H _ st en fun v H1 r M1 A1 p1 s1 q1 ⟨ds, ex, hq⟩ => ?_
  obtain ⟨a, vs, rfl, h1, h2⟩ := s1.dat q1 ex
  refine ⟨a, vs, rfl, h1, fun l hl => ?_⟩
  have sm := same_upd (o := .tup vs.reverse) hl
  exact kk _ _ (.d (.tup ds.reverse)) M1 A1 (p1.trans (s1.post sm)) (s1.grow sm) ⟨l, _, rfl, .inl (.inl (view_at s1 hl)), Reps.rev (Reps.mono (off_same sm) _ _ h2)⟩ hq
end
theorem rngA_eq (lo : Int) (n : Nat) : rngD lo n = (List.range n).map fun (i : Nat) => D.int (lo + i) := by
  refine List.ext_getElem? fun i => ?_
  rw [List.getElem?_map]
  by_cases h : i < n
  · rw [List.getElem?_range h]
    cases hg : (rngD lo n)[i]? with
    | none => rw [List.getElem?_eq_none_iff, rngD_len] at hg; omega
    | some d => obtain ⟨_, rfl⟩ := rngD_get hg; simp
  · rw [List.getElem?_eq_none (by rw [rngD_len]; omega), List.getElem?_eq_none (by simp; omega)]; rfl
theorem rz0 : type_of% @wTupRev.eq_1 := @wTupRev.eq_1
end Dw
set_option Elab.async false
set_option linter.all false
set_option maxRecDepth 100000
set_option maxHeartbeats 4000000
/-! Dv6: sorted(d) of a dict. -/
namespace Dw
open PySem PySem.Spec PyProof.Rows L2
/-- the pairs of a dict: an object, data -/
def kvsAt (M : Mem) : Rv → Option (List (Key × D))
  | .o j => (M[j]?).bind MO.dc
  | .d (.dct ks ds) => some (ks.zip ds)
  | _ => none
theorem kvsAt_o {M : Mem} {j : Nat} : kvsAt M (.o j) = (M[j]?).bind MO.dc := rfl
theorem kvsAt_d {M : Mem} {ks : List Key} {ds : List D} : kvsAt M (.d (.dct ks ds)) = some (ks.zip ds) := rfl
theorem kvsAt_rep {K : PySem.W.Frag} {S A : List Addr} {H : Hp} {M : Mem} (st : Sto K S A H M) {r : Rv} {v : V} {kvs : List (Key × D)} (q : RepV K S A H r v) (e : kvsAt M r = some kvs) : ∃ a us, v = .ref a ∧ H a = some (.dK us) ∧ RepD K (view S A H) kvs us := by
  cases r with
  | o j =>
    obtain ⟨a, ha, rfl⟩ := q
    rw [kvsAt_o, Option.bind_eq_some_iff] at e
    obtain ⟨mo, e1, e2⟩ := e
    obtain ⟨us, g1, g2⟩ := (st.mem j mo a e1 ha).dcD e2
    exact ⟨a, us, rfl, g1, g2⟩
  | d x =>
    cases x <;> first | (cases e; done) | skip
    case dct ks ds =>
      obtain ⟨a, vs, rfl, g1, g2, g3⟩ := q
      cases e
      refine ⟨a, _, rfl, (off_some g1).2, ?_, ?_⟩
      · have hl := g3.len
        rw [List.map_fst_zip (by omega), List.map_fst_zip (by omega)]
      · have hl := g3.len
        rw [List.map_snd_zip (by omega), List.map_snd_zip (by omega)]
        exact g3
theorem rising_ge : ∀ (l : List Str) (p : Str), risingS p l = true → (∀ x ∈ l, ¬ x.cps.toList < p.cps.toList) ∧ l.Pairwise fun a b => ¬ b.cps.toList < a.cps.toList
  | [], _, _ => ⟨by simp, .nil⟩
  | x :: l, p, h => by
    rw [risingS, Bool.and_eq_true, ltCps_eq] at h
    have h1 : ¬ x.cps.toList < p.cps.toList := by simpa using h.1
    obtain ⟨i1, i2⟩ := rising_ge l x h.2
    refine ⟨fun y hy => ?_, .cons i1 i2⟩
    rcases List.mem_cons.mp hy with rfl | hy
    · exact h1
    · intro z
      have h2 := i1 y hy
      have h3 : p.cps.toList ≤ x.cps.toList := List.not_lt.mp h1
      have h4 : x.cps.toList ≤ y.cps.toList := List.not_lt.mp h2
      exact List.not_lt.mpr (List.le_trans h3 h4) z
theorem sortedS_asc {l : List Str} (h : sortedS l = true) (n : l.Nodup) : l.Pairwise strLt := by
  have key : l.Pairwise fun a b => ¬ b.cps.toList < a.cps.toList := by
    cases l with
    | nil => exact .nil
    | cons x l => exact .cons (rising_ge l x h).1 (rising_ge l x h).2
  refine (key.and n).imp fun {a b} ⟨h1, h2⟩ => ?_
  exact Classical.byContradiction fun h => h2 (okS.tri a b (by simpa [ltS, strLt] using h) (by simpa [ltS] using h1))
theorem ints_asc {l : List Int} (h : l.Pairwise (· ≤ ·)) (n : l.Nodup) : l.Pairwise (· < ·) := (h.and n).imp fun {a b} ⟨h1, h2⟩ => by omega
section
variable {X : Cx} {J : Bs} {e : Expr} {ws : WA} {p pos : Pos}
def wSortK (ws : WA) : WE := fun env M Q => ws env M fun rs M1 => ∃ r, rs = [r] ∧ ∃ kvs, kvsAt M1 r = some kvs ∧ (kvs.map (·.1)).Nodup ∧ kvs.length < 64 ∧ SrtQ (kvs.map (·.1)) fun d => Q (.d d) M1
theorem qe_sortK (hc : X.calm = true) (hg : Gl X "sorted") (hm : X.mg "sorted" = none) (ha : QA J X [e] ws)
    (he : starEach [e] X.env = (false, eval e X.env) :: starEach [] X.env := by rfl) (hpl : (backTo pos (starEach [] X.env)).any (·.1) = false := by rfl) :
    QE J X (.Call (.Name "sorted" p) [e] [] pos) (wSortK ws) := by
  obtain ⟨ta, pa, da⟩ := ha
  have hcr : CallR X (.builtin "sorted") _ := fun pins s σ H xs us Q I r (q : _ ∨ _) => q.elim (call_sortedD hc pins s σ H xs us Q I r) (call_sortedDI hc pins s σ H xs us Q I r)
  refine ⟨_, pe_callB hcr hg hm boot_sorted pa (by decide) (by decide) he hpl, fun env M Q hw S A σ H R st en k => ?_⟩
  refine da env M _ hw S A σ H _ st en fun vs H1 rs M1 A1 p1 s1 q1 ⟨r, er, kvs, ek, hn, hl, hq⟩ => ?_
  subst er
  obtain ⟨v, us, rfl, qv, q0⟩ := q1
  cases q0
  obtain ⟨a, us, rfl, g1, g2, g3⟩ := kvsAt_rep s1 qv ek
  have hlen : us.length = kvs.length := by have := congrArg List.length g2; simpa using this
  rcases hq with ⟨is, e1, q⟩ | ⟨is, e1, q⟩
  · right
    refine ⟨a, us, is, rfl, .inl g1, ?_, ?_, fun ys p0 pn asc hp => ?_⟩
    · rw [g2]; exact e1
    · have := congrArg List.length e1; simp at this; omega
    · have hnd : is.Nodup := by rw [e1] at hn; exact (List.Pairwise.of_map Sum.inl (fun a b h z => h (by rw [z])) hn)
      have en' : ys = usI is := usI_of (ints_asc asc (pn.nodup_iff.mpr hnd)) fun k => pn.mem_iff
      subst en'
      have sm := same_upd (o := .lst ((usI is).map V.int)) hp
      exact k (.ref p0) _ (.d (.lst ((usI is).map .int))) M1 A1 (p1.trans (s1.post sm)) (s1.grow sm) ⟨p0, _, rfl, .inl (.inl (view_at s1 hp)), Reps.of_ints _⟩ q
  · left
    refine ⟨a, us, is, rfl, .inl g1, ?_, ?_, fun ys p0 pn asc hp => ?_⟩
    · rw [g2]; exact e1
    · have := congrArg List.length e1; simp at this; omega
    · have hnd : is.Nodup := by rw [e1] at hn; exact (List.Pairwise.of_map Sum.inr (fun a b h z => h (by rw [z])) hn)
      have en' : ys = usS is := usS_of (sortedS_asc asc (pn.nodup_iff.mpr hnd)) fun k => pn.mem_iff
      subst en'
      have sm := same_upd (o := .lst ((usS is).map V.str)) hp
      exact k (.ref p0) _ (.d (.lst ((usS is).map .str))) M1 A1 (p1.trans (s1.post sm)) (s1.grow sm) ⟨p0, _, rfl, .inl (.inl (view_at s1 hp)), Reps.of_strs _⟩ q
end
theorem sort_strsT (ws : List Str) : ∃ ws' : List Str, ws'.Perm ws ∧ fSorted [.tup (ws.map .str)] (.lst (ws'.map .str)) := by
  obtain ⟨ws', h1, es, ps, h2, h3⟩ := sort_strs ws
  cases h2
  exact ⟨ws', h1, _, ps, rfl, h3⟩
theorem lc_mapD {wg : WG} {we : WE} {env : Env'} {Q : List D → Mem → Prop} (f : D → D) (xs : List D) {M : Mem}
    (hs : ∀ x ∈ xs, ∀ G : D → Mem → Prop, G (f x) M → wg (.d x) env M fun env1 M1 => we env1 M1 fun y M3 => ∃ z, y = .d z ∧ G z M3) (hd : Q (xs.map f) M) : wLcL wg wYes we env xs M [] Q := by
  have := lc_map' (c := id) f xs hs hd
  rwa [List.map_id] at this
theorem lc_filtD {wg : WG} {wt : WT} {we : WE} {env : Env'} {Q : List D → Mem → Prop} (p : D → Bool) (xs : List D) {M : Mem}
    (hs : ∀ x ∈ xs, ∀ (G : Mem → List D → Prop) (acc : List D), (p x = true → G M (acc ++ [x])) → (p x = false → G M acc) → wg (.d x) env M fun env1 M1 => wt env1 M1 fun b M2 => if b = true then we env1 M2 fun y M3 => ∃ z, y = .d z ∧ G M3 (acc ++ [z]) else G M2 acc)
    (hd : Q (xs.filter p) M) : wLcL wg wt we env xs M [] Q := by
  have := lc_mapA (c := id) p id xs (acc0 := []) hs (by simpa using hd)
  rwa [List.map_id] at this
theorem zip1_map {α : Type} {f : α → D} (z : α) (l : List α) : zipD (l.map f) (cutD (l.map f) (some 1) none) = (List.range (l.length - 1)).map fun i => .tup [f (l.getD i z), f (l.getD (i + 1) z)] := by
  rw [cut_map, show (1 : Int) = ((1 : Nat) : Int) from rfl, cut_drop]
  refine List.ext_getElem (by first | (simp [zipD]; done) | (simp [zipD]; omega)) fun i h1 h2 => ?_
  have hi : i + 1 < l.length := by simp at h2; omega
  simp [zipD, List.getD_eq_getElem?_getD, List.getElem?_eq_getElem hi, List.getElem?_eq_getElem (show i < l.length by omega), Nat.add_comm 1 i]
theorem addM_t {α : Type} {f : α → D} {a b : List α} (h : a.length + b.length ≤ 10000) : dAdd (.tup (a.map f)) (.tup (b.map f)) = some (.tup ((a ++ b).map f)) := by
  rw [dAdd_t, if_pos (sz (by rw [List.length_map, List.length_map]; omega)), List.map_append]
theorem addM_l {α : Type} {f : α → D} {a b : List α} (h : a.length + b.length ≤ 10000) : dAdd (.lst (a.map f)) (.lst (b.map f)) = some (.lst ((a ++ b).map f)) := by
  rw [dAdd_l, if_pos (sz (by rw [List.length_map, List.length_map]; omega)), List.map_append]
theorem addM_t1 {α : Type} {f : α → D} {a : List α} {x : α} (h : a.length + 1 ≤ 10000) : dAdd (.tup (a.map f)) (.tup [f x]) = some (.tup ((a ++ [x]).map f)) := addM_t (b := [x]) h
theorem addM_l1 {α : Type} {f : α → D} {a : List α} {x : α} (h : a.length + 1 ≤ 10000) : dAdd (.lst (a.map f)) (.lst [f x]) = some (.lst ((a ++ [x]).map f)) := addM_l (b := [x]) h
theorem fTupL {ds : List D} : fTup [.lst ds] (.tup ds) := fTup_l.mpr rfl
theorem slT_lo {α : Type} {f : α → D} {a : List α} {k : Nat} : dSl (some (k : Int)) none (.tup (a.map f)) = some (.tup ((a.drop k).map f)) := by rw [dSl_t, cut_map, cut_drop]
theorem slT_hi {α : Type} {f : α → D} {a : List α} {k : Nat} : dSl none (some (k : Int)) (.tup (a.map f)) = some (.tup ((a.take k).map f)) := by rw [dSl_t, cut_map, cut_take]
theorem slL_lo {α : Type} {f : α → D} {a : List α} {k : Nat} : dSl (some (k : Int)) none (.lst (a.map f)) = some (.lst ((a.drop k).map f)) := by rw [dSl_l, cut_map, cut_drop]
theorem slL_hi {α : Type} {f : α → D} {a : List α} {k : Nat} : dSl none (some (k : Int)) (.lst (a.map f)) = some (.lst ((a.take k).map f)) := by rw [dSl_l, cut_map, cut_take]
theorem v6a : type_of% @wSortK.eq_1 := @wSortK.eq_1
theorem v6b : type_of% @kvsAt_o := @kvsAt_o
theorem v6c : type_of% @kvsAt_d := @kvsAt_d
end Dw
open PySem PySem.Spec PyProof.Rows L2 Dw in
local macro_rules | `(tactic| walk_at "RS") => `(tactic| simp only [rl0,rl1,rl2,rl3,rl4,rl5,rl6,rl7,rl8,rl9,rl10,rl11,rl12,rl13,rl14,rl15,rl16,rl17,rl18,rl19,rl20,rl21,rl22,rl23,rl24,rl25,rl26,rl27,rl28,rl29,rl36,rl43,rl44,rl45,rl52,rl59,rl66,rl67,rl68,rl73,rl74,rl80,rl87,rl94,rl101,rl108,rl115,rl122,rl129,rl136,rl137,rl138,rl143,rl144,rl151,rl158,rl165,rl172,rl179,rl186,rl193,rl200,rl207,rl214,rl221,rl228,rl235,rl242,rl249,rl256,rl263,rl270,rl277,rl284,rl291,rl298,rl305,rl312,rl319,rl326,rl333,rl340,rl347,rl354,rl361,rl368,rl375,rl382,rl389,rl396,rl403,rl410,rl417,rl418,rl424,rl431,rl438,rl445,rl452,rl459,rl466,rl473,rl480,rl487,rl494,rl501,rl508,rl515,rl522,rl529,rl536,rl537,rl538,rl545,rl546,rl547,rl548,rl549,rl550,rl551,rl552,rl553,rl554,rl555,rl556,rl557,rl558,rl559,rl560,rl561,rl562,rl563,rl564,rl565,rl566,rl567,rl568,rl569,rl570,rl571,rl572,rl573,rl574,rl575,rl576,rl577,rl578,rl579,rl580,rl581,rl582,rl583,rl584,rl585,rl592,rl599,rl606,rl607,rl608,rl609,rl610,rl611,rl612,rl613,rl614,rl615,rl620,rl621,rl622,rl623,rl624,rl625,rl626,rl627,rl628,rl629,rl630,rl631,rl632,rl633,rl634,rl635,rl636,rl637,rl638,rl639,rl640,rl641,rl642,rl643,rl644,rl645,rl646,rl647,rl648,rl649,rl650,rl651,rl652,rl653,rl654,rl655,rl656,rl657,rl658,rl659,rl660,rl666,rl667,rl668,rl669,rl670,rl671,rl672,rl673,rl674,rl675,rl676,rl677,rl678,rl679,rl680,rl681,rl682,rl683,rl684,rl685,rl686,rl687,rl688,rl689,rl690,rl691,rl692,rl693,rl694,rl695,rl696,rl697,rl698,rl699,rl700,rl701,rl702,rl703,rl704,rl705,rl706,rl707,rl708,rl709,rl710,rl711,rl712,rl713,rl714,rl715,rl716,rl717,rl718,rl719,rl720,rl721,rl722,rl723,rl724,rl725,rl726,rl727,rl728,rl729,rl730,rl731,rl732,rl733,rl734,rl735,rl736,rl737,rl738,rl739,rl740,rl741,rl742,rl743,rl744,rl745,rl746,rl747,rl748,rl749,rl750,rl751,rl752,rl753,rl754,rl755,rl756,rl757,rl758,rl759,rl760,rl761,rl762,rl763,rl764,rl765,rl766,rl767,rl768,rl769,rl770,rl771,rl772,rl779,rl780,rl781,rl782,rl783,rl784,rl785,ru0,ru1,ru2,ru3,ru4,ru5,ru6,ru7,ru8,ru9,ru14,ru15,ru16,ru17,ru18,ru19,ru20,ru21,ru22,ru23,ru24,ru25,ru26,rk1,rk2,rk3,rk4,rk5,rk6,rm1,rm2,rn1,rv1,rv2,rv4,rv3,rw0,rw1,rw2,rw3,rw4,rw5,rw6,rw7,rw8,rw9,rw10,rw11,rw12,rw13,rv16,rv17,rv18,rv10,rv11,rv12,rv13,rv14,rv15,rx0,rx1,rx2,rx3,rx4,rx5,rx6,rx7,rx8,rx9,rx10,rx11,rx12,rx13,rx14,ry0,rz0,v6a,v6b,v6c,Bool.and_eq_decide,Bool.or_eq_decide,Bool.decide_beq_decide,decide_eq_decide,decide_eq_true_iff,String.reduceEq,String.reduceNe,Nat.reduceAdd,Nat.reduceSub,reduceIte,Int.reduceLT,Int.reduceLE,Int.reduceToNat,Int.reduceNeg,Int.reduceSub,Int.reduceAdd,Int.reducePow,Nat.reducePow,Int.reduceMul,Int.reduceEq,reduceCtorEq,Nat.reduceLT,Nat.reduceLeDiff,Int.reduceAbs])
open PySem PySem.Spec PyProof.Rows L2 Dw in
local macro_rules | `(tactic| walk_at "RD") => `(tactic| simp only [rl0,rl1,rl2,rl3,rl4,rl5,rl6,rl7,rl8,rl9,rl10,rl11,rl12,rl13,rl14,rl15,rl16,rl17,rl18,rl19,rl20,rl21,rl22,rl23,rl24,rl25,rl26,rl27,rl28,rl29,rl36,rl43,rl44,rl45,rl52,rl59,rl66,rl67,rl68,rl73,rl74,rl80,rl87,rl94,rl101,rl108,rl115,rl122,rl129,rl136,rl137,rl138,rl143,rl144,rl151,rl158,rl165,rl172,rl179,rl186,rl193,rl200,rl207,rl214,rl221,rl228,rl235,rl242,rl249,rl256,rl263,rl270,rl277,rl284,rl291,rl298,rl305,rl312,rl319,rl326,rl333,rl340,rl347,rl354,rl361,rl368,rl375,rl382,rl389,rl396,rl403,rl410,rl417,rl418,rl424,rl431,rl438,rl445,rl452,rl459,rl466,rl473,rl480,rl487,rl494,rl501,rl508,rl515,rl522,rl529,rl536,rl537,rl538,rl545,rl546,rl547,rl548,rl549,rl550,rl551,rl552,rl553,rl554,rl555,rl556,rl557,rl558,rl559,rl560,rl561,rl562,rl563,rl564,rl565,rl566,rl567,rl568,rl569,rl570,rl571,rl572,rl573,rl574,rl575,rl576,rl577,rl578,rl579,rl580,rl581,rl582,rl583,rl584,rl585,rl592,rl599,rl606,rl607,rl608,rl609,rl610,rl611,rl612,rl613,rl614,rl615,rl620,rl621,rl622,rl623,rl624,rl625,rl626,rl627,rl628,rl629,rl630,rl631,rl632,rl633,rl634,rl635,rl636,rl637,rl638,rl639,rl640,rl641,rl642,rl643,rl644,rl645,rl646,rl647,rl648,rl649,rl650,rl651,rl652,rl653,rl654,rl655,rl656,rl657,rl658,rl659,rl660,rl666,rl667,rl668,rl669,rl670,rl671,rl672,rl673,rl674,rl675,rl676,rl677,rl678,rl679,rl680,rl681,rl682,rl683,rl684,rl685,rl686,rl687,rl688,rl689,rl690,rl691,rl692,rl693,rl694,rl695,rl696,rl697,rl698,rl699,rl700,rl701,rl702,rl703,rl704,rl705,rl706,rl707,rl708,rl709,rl710,rl711,rl712,rl713,rl714,rl715,rl716,rl717,rl718,rl719,rl720,rl721,rl722,rl723,rl724,rl725,rl726,rl727,rl728,rl729,rl730,rl731,rl732,rl733,rl734,rl735,rl736,rl737,rl738,rl739,rl740,rl741,rl742,rl743,rl744,rl745,rl746,rl747,rl748,rl749,rl750,rl751,rl752,rl753,rl754,rl755,rl756,rl757,rl758,rl759,rl760,rl761,rl762,rl763,rl764,rl765,rl766,rl767,rl768,rl769,rl770,rl771,rl772,rl779,rl780,rl781,rl782,rl783,rl784,rl785,ru0,ru1,ru2,ru3,ru4,ru5,ru6,ru7,ru8,ru9,ru14,ru15,ru16,ru17,ru18,ru19,ru20,ru21,ru22,ru23,ru24,ru25,ru26,rk1,rk2,rk3,rk4,rk5,rk6,rm1,rm2,rn1,rv1,rv2,rv4,rv3,rw0,rw1,rw2,rw3,rw4,rw5,rw6,rw7,rw8,rw9,rw10,rw11,rw12,rw13,rv16,rv17,rv18,rv10,rv11,rv12,rv13,rv14,rv15,rx0,rx1,rx2,rx3,rx4,rx5,rx6,rx7,rx8,rx9,rx10,rx11,rx12,rx13,rx14,ry0,rz0,v6a,v6b,v6c,Bool.and_eq_decide,Bool.or_eq_decide,Bool.decide_beq_decide,decide_eq_decide,decide_eq_true_iff,String.reduceEq,String.reduceNe,Nat.reduceAdd,Nat.reduceSub,reduceIte,Int.reduceLT,Int.reduceLE,Int.reduceToNat,Int.reduceNeg,Int.reduceSub,Int.reduceAdd,Int.reducePow,Nat.reducePow,Int.reduceMul,Int.reduceEq,reduceCtorEq,Nat.reduceLT,Nat.reduceLeDiff,Int.reduceAbs,Dw.sSeq,Dw.endsAll])
open PySem PySem.Spec PyProof.Rows L2 Dw in
local macro_rules | `(tactic| walk_at "QS") => `(tactic| (try simp only [Dw.sz,Dw.szl,rl0,rl1,rl2,rl3,rl4,rl5,rl6,rl7,rl8,rl9,rl10,rl11,rl12,rl13,rl14,rl15,rl16,rl17,rl18,rl19,rl20,rl21,rl22,rl23,rl24,rl25,rl26,rl27,rl28,rl29,rl36,rl43,rl44,rl45,rl52,rl59,rl66,rl67,rl68,rl73,rl74,rl80,rl87,rl94,rl101,rl108,rl115,rl122,rl129,rl136,rl137,rl138,rl143,rl144,rl151,rl158,rl165,rl172,rl179,rl186,rl193,rl200,rl207,rl214,rl221,rl228,rl235,rl242,rl249,rl256,rl263,rl270,rl277,rl284,rl291,rl298,rl305,rl312,rl319,rl326,rl333,rl340,rl347,rl354,rl361,rl368,rl375,rl382,rl389,rl396,rl403,rl410,rl417,rl418,rl424,rl431,rl438,rl445,rl452,rl459,rl466,rl473,rl480,rl487,rl494,rl501,rl508,rl515,rl522,rl529,rl536,rl537,rl538,rl545,rl546,rl547,rl548,rl549,rl550,rl551,rl552,rl553,rl554,rl555,rl556,rl557,rl558,rl559,rl560,rl561,rl562,rl563,rl564,rl565,rl566,rl567,rl568,rl569,rl570,rl571,rl572,rl573,rl574,rl575,rl576,rl577,rl578,rl579,rl580,rl581,rl582,rl583,rl584,rl585,rl592,rl599,rl606,rl607,rl608,rl609,rl610,rl611,rl612,rl613,rl614,rl615,rl620,rl621,rl622,rl623,rl624,rl625,rl626,rl627,rl628,rl629,rl630,rl631,rl632,rl633,rl634,rl635,rl636,rl637,rl638,rl639,rl640,rl641,rl642,rl643,rl644,rl645,rl646,rl647,rl648,rl649,rl650,rl651,rl652,rl653,rl654,rl655,rl656,rl657,rl658,rl659,rl660,rl666,rl667,rl668,rl669,rl670,rl671,rl672,rl673,rl674,rl675,rl676,rl677,rl678,rl679,rl680,rl681,rl682,rl683,rl684,rl685,rl686,rl687,rl688,rl689,rl690,rl691,rl692,rl693,rl694,rl695,rl696,rl697,rl698,rl699,rl700,rl701,rl702,rl703,rl704,rl705,rl706,rl707,rl708,rl709,rl710,rl711,rl712,rl713,rl714,rl715,rl716,rl717,rl718,rl719,rl720,rl721,rl722,rl723,rl724,rl725,rl726,rl727,rl728,rl729,rl730,rl731,rl732,rl733,rl734,rl735,rl736,rl737,rl738,rl739,rl740,rl741,rl742,rl743,rl744,rl745,rl746,rl747,rl748,rl749,rl750,rl751,rl752,rl753,rl754,rl755,rl756,rl757,rl758,rl759,rl760,rl761,rl762,rl763,rl764,rl765,rl766,rl767,rl768,rl769,rl770,rl771,rl772,rl779,rl780,rl781,rl782,rl783,rl784,rl785,ru0,ru1,ru2,ru3,ru4,ru5,ru6,ru7,ru8,ru9,ru14,ru15,ru16,ru17,ru18,ru19,ru20,ru21,ru22,ru23,ru24,ru25,ru26,rk1,rk2,rk3,rk4,rk5,rk6,rm1,rm2,rn1,rv1,rv2,rv4,rv3,rw0,rw1,rw2,rw3,rw4,rw5,rw6,rw7,rw8,rw9,rw10,rw11,rw12,rw13,rv16,rv17,rv18,rv10,rv11,rv12,rv13,rv14,rv15,rx0,rx1,rx2,rx3,rx4,rx5,rx6,rx7,rx8,rx9,rx10,rx11,rx12,rx13,rx14,ry0,rz0,v6a,v6b,v6c,Bool.and_eq_decide,Bool.or_eq_decide,Bool.decide_beq_decide,decide_eq_decide,decide_eq_true_iff,String.reduceEq,String.reduceNe,Nat.reduceAdd,Nat.reduceSub,reduceIte,Int.reduceLT,Int.reduceLE,Int.reduceToNat,Int.reduceNeg,Int.reduceSub,Int.reduceAdd,Int.reducePow,Nat.reducePow,Int.reduceMul,Int.reduceEq,reduceCtorEq,Nat.reduceLT,Nat.reduceLeDiff,Int.reduceAbs]))
open PySem PySem.Spec PyProof.Rows L2 Dw in
local macro_rules | `(tactic| walk_at "QD") => `(tactic| (try simp only [Dw.sz,Dw.szl,rl0,rl1,rl2,rl3,rl4,rl5,rl6,rl7,rl8,rl9,rl10,rl11,rl12,rl13,rl14,rl15,rl16,rl17,rl18,rl19,rl20,rl21,rl22,rl23,rl24,rl25,rl26,rl27,rl28,rl29,rl36,rl43,rl44,rl45,rl52,rl59,rl66,rl67,rl68,rl73,rl74,rl80,rl87,rl94,rl101,rl108,rl115,rl122,rl129,rl136,rl137,rl138,rl143,rl144,rl151,rl158,rl165,rl172,rl179,rl186,rl193,rl200,rl207,rl214,rl221,rl228,rl235,rl242,rl249,rl256,rl263,rl270,rl277,rl284,rl291,rl298,rl305,rl312,rl319,rl326,rl333,rl340,rl347,rl354,rl361,rl368,rl375,rl382,rl389,rl396,rl403,rl410,rl417,rl418,rl424,rl431,rl438,rl445,rl452,rl459,rl466,rl473,rl480,rl487,rl494,rl501,rl508,rl515,rl522,rl529,rl536,rl537,rl538,rl545,rl546,rl547,rl548,rl549,rl550,rl551,rl552,rl553,rl554,rl555,rl556,rl557,rl558,rl559,rl560,rl561,rl562,rl563,rl564,rl565,rl566,rl567,rl568,rl569,rl570,rl571,rl572,rl573,rl574,rl575,rl576,rl577,rl578,rl579,rl580,rl581,rl582,rl583,rl584,rl585,rl592,rl599,rl606,rl607,rl608,rl609,rl610,rl611,rl612,rl613,rl614,rl615,rl620,rl621,rl622,rl623,rl624,rl625,rl626,rl627,rl628,rl629,rl630,rl631,rl632,rl633,rl634,rl635,rl636,rl637,rl638,rl639,rl640,rl641,rl642,rl643,rl644,rl645,rl646,rl647,rl648,rl649,rl650,rl651,rl652,rl653,rl654,rl655,rl656,rl657,rl658,rl659,rl660,rl666,rl667,rl668,rl669,rl670,rl671,rl672,rl673,rl674,rl675,rl676,rl677,rl678,rl679,rl680,rl681,rl682,rl683,rl684,rl685,rl686,rl687,rl688,rl689,rl690,rl691,rl692,rl693,rl694,rl695,rl696,rl697,rl698,rl699,rl700,rl701,rl702,rl703,rl704,rl705,rl706,rl707,rl708,rl709,rl710,rl711,rl712,rl713,rl714,rl715,rl716,rl717,rl718,rl719,rl720,rl721,rl722,rl723,rl724,rl725,rl726,rl727,rl728,rl729,rl730,rl731,rl732,rl733,rl734,rl735,rl736,rl737,rl738,rl739,rl740,rl741,rl742,rl743,rl744,rl745,rl746,rl747,rl748,rl749,rl750,rl751,rl752,rl753,rl754,rl755,rl756,rl757,rl758,rl759,rl760,rl761,rl762,rl763,rl764,rl765,rl766,rl767,rl768,rl769,rl770,rl771,rl772,rl779,rl780,rl781,rl782,rl783,rl784,rl785,ru0,ru1,ru2,ru3,ru4,ru5,ru6,ru7,ru8,ru9,ru14,ru15,ru16,ru17,ru18,ru19,ru20,ru21,ru22,ru23,ru24,ru25,ru26,rk1,rk2,rk3,rk4,rk5,rk6,rm1,rm2,rn1,rv1,rv2,rv4,rv3,rw0,rw1,rw2,rw3,rw4,rw5,rw6,rw7,rw8,rw9,rw10,rw11,rw12,rw13,rv16,rv17,rv18,rv10,rv11,rv12,rv13,rv14,rv15,rx0,rx1,rx2,rx3,rx4,rx5,rx6,rx7,rx8,rx9,rx10,rx11,rx12,rx13,rx14,ry0,rz0,v6a,v6b,v6c,Bool.and_eq_decide,Bool.or_eq_decide,Bool.decide_beq_decide,decide_eq_decide,decide_eq_true_iff,String.reduceEq,String.reduceNe,Nat.reduceAdd,Nat.reduceSub,reduceIte,Int.reduceLT,Int.reduceLE,Int.reduceToNat,Int.reduceNeg,Int.reduceSub,Int.reduceAdd,Int.reducePow,Nat.reducePow,Int.reduceMul,Int.reduceEq,reduceCtorEq,Nat.reduceLT,Nat.reduceLeDiff,Int.reduceAbs,Dw.sSeq,Dw.endsAll]))
open PySem PySem.Spec PyProof.Rows L2 Dw in
local macro_rules | `(tactic| simp_all [$xs,*]) => `(tactic| (try simp only [Dw.sz,Dw.szl,rl0,rl1,rl2,rl3,rl4,rl5,rl6,rl7,rl8,rl9,rl10,rl11,rl12,rl13,rl14,rl15,rl16,rl17,rl18,rl19,rl20,rl21,rl22,rl23,rl24,rl25,rl26,rl27,rl28,rl29,rl36,rl43,rl44,rl45,rl52,rl59,rl66,rl67,rl68,rl73,rl74,rl80,rl87,rl94,rl101,rl108,rl115,rl122,rl129,rl136,rl137,rl138,rl143,rl144,rl151,rl158,rl165,rl172,rl179,rl186,rl193,rl200,rl207,rl214,rl221,rl228,rl235,rl242,rl249,rl256,rl263,rl270,rl277,rl284,rl291,rl298,rl305,rl312,rl319,rl326,rl333,rl340,rl347,rl354,rl361,rl368,rl375,rl382,rl389,rl396,rl403,rl410,rl417,rl418,rl424,rl431,rl438,rl445,rl452,rl459,rl466,rl473,rl480,rl487,rl494,rl501,rl508,rl515,rl522,rl529,rl536,rl537,rl538,rl545,rl546,rl547,rl548,rl549,rl550,rl551,rl552,rl553,rl554,rl555,rl556,rl557,rl558,rl559,rl560,rl561,rl562,rl563,rl564,rl565,rl566,rl567,rl568,rl569,rl570,rl571,rl572,rl573,rl574,rl575,rl576,rl577,rl578,rl579,rl580,rl581,rl582,rl583,rl584,rl585,rl592,rl599,rl606,rl607,rl608,rl609,rl610,rl611,rl612,rl613,rl614,rl615,rl620,rl621,rl622,rl623,rl624,rl625,rl626,rl627,rl628,rl629,rl630,rl631,rl632,rl633,rl634,rl635,rl636,rl637,rl638,rl639,rl640,rl641,rl642,rl643,rl644,rl645,rl646,rl647,rl648,rl649,rl650,rl651,rl652,rl653,rl654,rl655,rl656,rl657,rl658,rl659,rl660,rl666,rl667,rl668,rl669,rl670,rl671,rl672,rl673,rl674,rl675,rl676,rl677,rl678,rl679,rl680,rl681,rl682,rl683,rl684,rl685,rl686,rl687,rl688,rl689,rl690,rl691,rl692,rl693,rl694,rl695,rl696,rl697,rl698,rl699,rl700,rl701,rl702,rl703,rl704,rl705,rl706,rl707,rl708,rl709,rl710,rl711,rl712,rl713,rl714,rl715,rl716,rl717,rl718,rl719,rl720,rl721,rl722,rl723,rl724,rl725,rl726,rl727,rl728,rl729,rl730,rl731,rl732,rl733,rl734,rl735,rl736,rl737,rl738,rl739,rl740,rl741,rl742,rl743,rl744,rl745,rl746,rl747,rl748,rl749,rl750,rl751,rl752,rl753,rl754,rl755,rl756,rl757,rl758,rl759,rl760,rl761,rl762,rl763,rl764,rl765,rl766,rl767,rl768,rl769,rl770,rl771,rl772,rl779,rl780,rl781,rl782,rl783,rl784,rl785,ru0,ru1,ru2,ru3,ru4,ru5,ru6,ru7,ru8,ru9,ru14,ru15,ru16,ru17,ru18,ru19,ru20,ru21,ru22,ru23,ru24,ru25,ru26,rk1,rk2,rk3,rk4,rk5,rk6,rm1,rm2,rn1,rv1,rv2,rv4,rv3,rw0,rw1,rw2,rw3,rw4,rw5,rw6,rw7,rw8,rw9,rw10,rw11,rw12,rw13,rv16,rv17,rv18,rv10,rv11,rv12,rv13,rv14,rv15,rx0,rx1,rx2,rx3,rx4,rx5,rx6,rx7,rx8,rx9,rx10,rx11,rx12,rx13,rx14,ry0,rz0,v6a,v6b,v6c,Bool.and_eq_decide,Bool.or_eq_decide,Bool.decide_beq_decide,decide_eq_decide,decide_eq_true_iff,String.reduceEq,String.reduceNe,Nat.reduceAdd,Nat.reduceSub,reduceIte,Int.reduceLT,Int.reduceLE,Int.reduceToNat,Int.reduceNeg,Int.reduceSub,Int.reduceAdd,Int.reducePow,Nat.reducePow,Int.reduceMul,Int.reduceEq,reduceCtorEq,Nat.reduceLT,Nat.reduceLeDiff,Int.reduceAbs,$xs,*]))
open PySem PySem.Spec PyProof.Rows L2 Dw in
local macro_rules | `(tactic| simp_all only [$xs,*]) => `(tactic| (try simp only [Dw.sz,Dw.szl,rl0,rl1,rl2,rl3,rl4,rl5,rl6,rl7,rl8,rl9,rl10,rl11,rl12,rl13,rl14,rl15,rl16,rl17,rl18,rl19,rl20,rl21,rl22,rl23,rl24,rl25,rl26,rl27,rl28,rl29,rl36,rl43,rl44,rl45,rl52,rl59,rl66,rl67,rl68,rl73,rl74,rl80,rl87,rl94,rl101,rl108,rl115,rl122,rl129,rl136,rl137,rl138,rl143,rl144,rl151,rl158,rl165,rl172,rl179,rl186,rl193,rl200,rl207,rl214,rl221,rl228,rl235,rl242,rl249,rl256,rl263,rl270,rl277,rl284,rl291,rl298,rl305,rl312,rl319,rl326,rl333,rl340,rl347,rl354,rl361,rl368,rl375,rl382,rl389,rl396,rl403,rl410,rl417,rl418,rl424,rl431,rl438,rl445,rl452,rl459,rl466,rl473,rl480,rl487,rl494,rl501,rl508,rl515,rl522,rl529,rl536,rl537,rl538,rl545,rl546,rl547,rl548,rl549,rl550,rl551,rl552,rl553,rl554,rl555,rl556,rl557,rl558,rl559,rl560,rl561,rl562,rl563,rl564,rl565,rl566,rl567,rl568,rl569,rl570,rl571,rl572,rl573,rl574,rl575,rl576,rl577,rl578,rl579,rl580,rl581,rl582,rl583,rl584,rl585,rl592,rl599,rl606,rl607,rl608,rl609,rl610,rl611,rl612,rl613,rl614,rl615,rl620,rl621,rl622,rl623,rl624,rl625,rl626,rl627,rl628,rl629,rl630,rl631,rl632,rl633,rl634,rl635,rl636,rl637,rl638,rl639,rl640,rl641,rl642,rl643,rl644,rl645,rl646,rl647,rl648,rl649,rl650,rl651,rl652,rl653,rl654,rl655,rl656,rl657,rl658,rl659,rl660,rl666,rl667,rl668,rl669,rl670,rl671,rl672,rl673,rl674,rl675,rl676,rl677,rl678,rl679,rl680,rl681,rl682,rl683,rl684,rl685,rl686,rl687,rl688,rl689,rl690,rl691,rl692,rl693,rl694,rl695,rl696,rl697,rl698,rl699,rl700,rl701,rl702,rl703,rl704,rl705,rl706,rl707,rl708,rl709,rl710,rl711,rl712,rl713,rl714,rl715,rl716,rl717,rl718,rl719,rl720,rl721,rl722,rl723,rl724,rl725,rl726,rl727,rl728,rl729,rl730,rl731,rl732,rl733,rl734,rl735,rl736,rl737,rl738,rl739,rl740,rl741,rl742,rl743,rl744,rl745,rl746,rl747,rl748,rl749,rl750,rl751,rl752,rl753,rl754,rl755,rl756,rl757,rl758,rl759,rl760,rl761,rl762,rl763,rl764,rl765,rl766,rl767,rl768,rl769,rl770,rl771,rl772,rl779,rl780,rl781,rl782,rl783,rl784,rl785,ru0,ru1,ru2,ru3,ru4,ru5,ru6,ru7,ru8,ru9,ru14,ru15,ru16,ru17,ru18,ru19,ru20,ru21,ru22,ru23,ru24,ru25,ru26,rk1,rk2,rk3,rk4,rk5,rk6,rm1,rm2,rn1,rv1,rv2,rv4,rv3,rw0,rw1,rw2,rw3,rw4,rw5,rw6,rw7,rw8,rw9,rw10,rw11,rw12,rw13,rv16,rv17,rv18,rv10,rv11,rv12,rv13,rv14,rv15,rx0,rx1,rx2,rx3,rx4,rx5,rx6,rx7,rx8,rx9,rx10,rx11,rx12,rx13,rx14,ry0,rz0,v6a,v6b,v6c,Bool.and_eq_decide,Bool.or_eq_decide,Bool.decide_beq_decide,decide_eq_decide,decide_eq_true_iff,String.reduceEq,String.reduceNe,Nat.reduceAdd,Nat.reduceSub,reduceIte,Int.reduceLT,Int.reduceLE,Int.reduceToNat,Int.reduceNeg,Int.reduceSub,Int.reduceAdd,Int.reducePow,Nat.reducePow,Int.reduceMul,Int.reduceEq,reduceCtorEq,Nat.reduceLT,Nat.reduceLeDiff,Int.reduceAbs,Dw.sSeq,Dw.endsAll,$xs,*]))
open PySem PySem.Spec PyProof.Rows L2 Dw in
local macro_rules | `(tactic| simp_all? [$xs,*]) => `(tactic| simp only [rl0,rl1,rl2,rl3,rl4,rl5,rl6,rl7,rl8,rl9,rl10,rl11,rl12,rl13,rl14,rl15,rl16,rl17,rl18,rl19,rl20,rl21,rl22,rl23,rl24,rl25,rl26,rl27,rl28,rl29,rl36,rl43,rl44,rl45,rl52,rl59,rl66,rl67,rl68,rl73,rl74,rl80,rl87,rl94,rl101,rl108,rl115,rl122,rl129,rl136,rl137,rl138,rl143,rl144,rl151,rl158,rl165,rl172,rl179,rl186,rl193,rl200,rl207,rl214,rl221,rl228,rl235,rl242,rl249,rl256,rl263,rl270,rl277,rl284,rl291,rl298,rl305,rl312,rl319,rl326,rl333,rl340,rl347,rl354,rl361,rl368,rl375,rl382,rl389,rl396,rl403,rl410,rl417,rl418,rl424,rl431,rl438,rl445,rl452,rl459,rl466,rl473,rl480,rl487,rl494,rl501,rl508,rl515,rl522,rl529,rl536,rl537,rl538,rl545,rl546,rl547,rl548,rl549,rl550,rl551,rl552,rl553,rl554,rl555,rl556,rl557,rl558,rl559,rl560,rl561,rl562,rl563,rl564,rl565,rl566,rl567,rl568,rl569,rl570,rl571,rl572,rl573,rl574,rl575,rl576,rl577,rl578,rl579,rl580,rl581,rl582,rl583,rl584,rl585,rl592,rl599,rl606,rl607,rl608,rl609,rl610,rl611,rl612,rl613,rl614,rl615,rl620,rl621,rl622,rl623,rl624,rl625,rl626,rl627,rl628,rl629,rl630,rl631,rl632,rl633,rl634,rl635,rl636,rl637,rl638,rl639,rl640,rl641,rl642,rl643,rl644,rl645,rl646,rl647,rl648,rl649,rl650,rl651,rl652,rl653,rl654,rl655,rl656,rl657,rl658,rl659,rl660,rl666,rl667,rl668,rl669,rl670,rl671,rl672,rl673,rl674,rl675,rl676,rl677,rl678,rl679,rl680,rl681,rl682,rl683,rl684,rl685,rl686,rl687,rl688,rl689,rl690,rl691,rl692,rl693,rl694,rl695,rl696,rl697,rl698,rl699,rl700,rl701,rl702,rl703,rl704,rl705,rl706,rl707,rl708,rl709,rl710,rl711,rl712,rl713,rl714,rl715,rl716,rl717,rl718,rl719,rl720,rl721,rl722,rl723,rl724,rl725,rl726,rl727,rl728,rl729,rl730,rl731,rl732,rl733,rl734,rl735,rl736,rl737,rl738,rl739,rl740,rl741,rl742,rl743,rl744,rl745,rl746,rl747,rl748,rl749,rl750,rl751,rl752,rl753,rl754,rl755,rl756,rl757,rl758,rl759,rl760,rl761,rl762,rl763,rl764,rl765,rl766,rl767,rl768,rl769,rl770,rl771,rl772,rl779,rl780,rl781,rl782,rl783,rl784,rl785,ru0,ru1,ru2,ru3,ru4,ru5,ru6,ru7,ru8,ru9,ru14,ru15,ru16,ru17,ru18,ru19,ru20,ru21,ru22,ru23,ru24,ru25,ru26,rk1,rk2,rk3,rk4,rk5,rk6,rm1,rm2,rn1,rv1,rv2,rv4,rv3,rw0,rw1,rw2,rw3,rw4,rw5,rw6,rw7,rw8,rw9,rw10,rw11,rw12,rw13,rv16,rv17,rv18,rv10,rv11,rv12,rv13,rv14,rv15,rx0,rx1,rx2,rx3,rx4,rx5,rx6,rx7,rx8,rx9,rx10,rx11,rx12,rx13,rx14,ry0,rz0,v6a,v6b,v6c,Bool.and_eq_decide,Bool.or_eq_decide,Bool.decide_beq_decide,decide_eq_decide,decide_eq_true_iff,String.reduceEq,String.reduceNe,Nat.reduceAdd,Nat.reduceSub,reduceIte,Int.reduceLT,Int.reduceLE,Int.reduceToNat,Int.reduceNeg,Int.reduceSub,Int.reduceAdd,Int.reducePow,Nat.reducePow,Int.reduceMul,Int.reduceEq,reduceCtorEq,Nat.reduceLT,Nat.reduceLeDiff,Int.reduceAbs,$xs,*])
open PySem PySem.Spec PyProof.Rows L2 Dw in
local macro_rules | `(tactic| simp_all? only [$xs,*]) => `(tactic| simp only [rl0,rl1,rl2,rl3,rl4,rl5,rl6,rl7,rl8,rl9,rl10,rl11,rl12,rl13,rl14,rl15,rl16,rl17,rl18,rl19,rl20,rl21,rl22,rl23,rl24,rl25,rl26,rl27,rl28,rl29,rl36,rl43,rl44,rl45,rl52,rl59,rl66,rl67,rl68,rl73,rl74,rl80,rl87,rl94,rl101,rl108,rl115,rl122,rl129,rl136,rl137,rl138,rl143,rl144,rl151,rl158,rl165,rl172,rl179,rl186,rl193,rl200,rl207,rl214,rl221,rl228,rl235,rl242,rl249,rl256,rl263,rl270,rl277,rl284,rl291,rl298,rl305,rl312,rl319,rl326,rl333,rl340,rl347,rl354,rl361,rl368,rl375,rl382,rl389,rl396,rl403,rl410,rl417,rl418,rl424,rl431,rl438,rl445,rl452,rl459,rl466,rl473,rl480,rl487,rl494,rl501,rl508,rl515,rl522,rl529,rl536,rl537,rl538,rl545,rl546,rl547,rl548,rl549,rl550,rl551,rl552,rl553,rl554,rl555,rl556,rl557,rl558,rl559,rl560,rl561,rl562,rl563,rl564,rl565,rl566,rl567,rl568,rl569,rl570,rl571,rl572,rl573,rl574,rl575,rl576,rl577,rl578,rl579,rl580,rl581,rl582,rl583,rl584,rl585,rl592,rl599,rl606,rl607,rl608,rl609,rl610,rl611,rl612,rl613,rl614,rl615,rl620,rl621,rl622,rl623,rl624,rl625,rl626,rl627,rl628,rl629,rl630,rl631,rl632,rl633,rl634,rl635,rl636,rl637,rl638,rl639,rl640,rl641,rl642,rl643,rl644,rl645,rl646,rl647,rl648,rl649,rl650,rl651,rl652,rl653,rl654,rl655,rl656,rl657,rl658,rl659,rl660,rl666,rl667,rl668,rl669,rl670,rl671,rl672,rl673,rl674,rl675,rl676,rl677,rl678,rl679,rl680,rl681,rl682,rl683,rl684,rl685,rl686,rl687,rl688,rl689,rl690,rl691,rl692,rl693,rl694,rl695,rl696,rl697,rl698,rl699,rl700,rl701,rl702,rl703,rl704,rl705,rl706,rl707,rl708,rl709,rl710,rl711,rl712,rl713,rl714,rl715,rl716,rl717,rl718,rl719,rl720,rl721,rl722,rl723,rl724,rl725,rl726,rl727,rl728,rl729,rl730,rl731,rl732,rl733,rl734,rl735,rl736,rl737,rl738,rl739,rl740,rl741,rl742,rl743,rl744,rl745,rl746,rl747,rl748,rl749,rl750,rl751,rl752,rl753,rl754,rl755,rl756,rl757,rl758,rl759,rl760,rl761,rl762,rl763,rl764,rl765,rl766,rl767,rl768,rl769,rl770,rl771,rl772,rl779,rl780,rl781,rl782,rl783,rl784,rl785,ru0,ru1,ru2,ru3,ru4,ru5,ru6,ru7,ru8,ru9,ru14,ru15,ru16,ru17,ru18,ru19,ru20,ru21,ru22,ru23,ru24,ru25,ru26,rk1,rk2,rk3,rk4,rk5,rk6,rm1,rm2,rn1,rv1,rv2,rv4,rv3,rw0,rw1,rw2,rw3,rw4,rw5,rw6,rw7,rw8,rw9,rw10,rw11,rw12,rw13,rv16,rv17,rv18,rv10,rv11,rv12,rv13,rv14,rv15,rx0,rx1,rx2,rx3,rx4,rx5,rx6,rx7,rx8,rx9,rx10,rx11,rx12,rx13,rx14,ry0,rz0,v6a,v6b,v6c,Bool.and_eq_decide,Bool.or_eq_decide,Bool.decide_beq_decide,decide_eq_decide,decide_eq_true_iff,String.reduceEq,String.reduceNe,Nat.reduceAdd,Nat.reduceSub,reduceIte,Int.reduceLT,Int.reduceLE,Int.reduceToNat,Int.reduceNeg,Int.reduceSub,Int.reduceAdd,Int.reducePow,Nat.reducePow,Int.reduceMul,Int.reduceEq,reduceCtorEq,Nat.reduceLT,Nat.reduceLeDiff,Int.reduceAbs,Dw.sSeq,Dw.endsAll,$xs,*])
open PySem PySem.Spec PyProof.Rows L2 Dw in
local macro_rules | `(tactic| walk_at "SIDE") => `(tactic| first | assumption | omega | decide | (simp only [List.length_map,List.length_append,List.length_cons,List.length_nil,List.length_range,List.length_take,List.length_drop,List.length_reverse]; omega) | (refine And.intro ?_ ?_ <;> walk_at "SIDE"))
open PySem PySem.Spec PyProof.Rows L2 Dw in
local macro_rules | `(tactic| walk_at "ADD") => `(tactic| (first | (rw [Dw.dAdd_l, if_pos (Dw.sz (by first | (walk_at "SIDE") | (simp; omega)))]; walk_at "QS") | (rw [Dw.dAdd_t, if_pos (Dw.sz (by first | (walk_at "SIDE") | (simp; omega)))]; walk_at "QS") | (rw [Dw.dAdd_s, if_pos (Dw.sz (by first | (walk_at "SIDE") | (simp; omega)))]; walk_at "QS")))
open PySem PySem.Spec PyProof.Rows L2 Dw in
local macro_rules | `(tactic| walk_at "LC") => `(tactic| first | (refine Dw.lc_map' _ _ _ (fun x hx G hG => ?_) ?_; focus (walk_at "QD"; first | exact hG | exact (hG)); walk_at "QS"; walk_at "GO") | (refine Dw.lc_map _ _ _ _ (fun x hx G acc h1 h2 => ?_) ?_; focus (walk_at "QD"; exact Dw.lc_fin h1 h2); walk_at "QS"; walk_at "GO"))
open PySem PySem.Spec PyProof.Rows L2 Dw in
local macro_rules | `(tactic| walk_at "CB") => `(tactic| first | (refine ⟨_, Dw.fTup_l.mpr rfl, ?_⟩) | (refine ⟨_, Dw.fTup_t.mpr rfl, ?_⟩) | (refine ⟨_, Dw.fSumB_l, ?_⟩) | (refine ⟨_, Dw.fSumB_t, ?_⟩) | (refine ⟨_, Dw.fSumB_map, ?_⟩) | (refine ⟨_, Dw.fAll_map, ?_⟩) | (refine ⟨_, Dw.fAny_map, ?_⟩))
open PySem PySem.Spec PyProof.Rows L2 Dw in
local macro_rules | `(tactic| walk_at "GO") => `(tactic| (try (first | (refine Dw.seq_ ?_; walk_at "QS"; walk_at "GO") | (refine ⟨Dw.sz (by walk_at "SIDE"), ?_⟩; walk_at "QS"; walk_at "GO") | (refine ⟨Dw.szl (by walk_at "SIDE"), ?_⟩; walk_at "QS"; walk_at "GO") | (walk_at "CB"; walk_at "QS"; walk_at "GO") | (walk_at "ADD"; walk_at "GO") | (walk_at "CALL") | (walk_at "LC") | (refine Dw.for_cons ?_; walk_at "QS"; walk_at "GO") | (refine Dw.for_nil ?_; walk_at "QS"; walk_at "GO"))))
set_option Elab.async false
set_option linter.all false
set_option maxRecDepth 100000
set_option maxHeartbeats 4000000
namespace Lk26
open PySem PySem.Spec PyProof.Rows L2 Dw
/-! ### data of numbers, texts, tuples, at most so deep -/
def dok : Nat → D → Prop
  | n, d => match d with
    | .non => True
    | .bl _ => True
    | .int _ => True
    | .str x => PyData.strOk x = true
    | .tup ds => match n with
      | 0 => False
      | n + 1 => ∀ x ∈ ds, dok n x
    | _ => False
theorem dok_non {n : Nat} : dok n .non = True := by cases n <;> rfl
theorem dok_bl {n : Nat} {b : Bool} : dok n (.bl b) = True := by cases n <;> rfl
theorem dok_int {n : Nat} {i : Int} : dok n (.int i) = True := by cases n <;> rfl
theorem dok_str {n : Nat} {x : Str} : dok n (.str x) = (PyData.strOk x = true) := by cases n <;> rfl
theorem dok_tup {n : Nat} {ds : List D} : dok (n + 1) (.tup ds) = ∀ x ∈ ds, dok n x := rfl
theorem dok_mono : ∀ {n m : Nat} {d : D}, n ≤ m → dok n d → dok m d
  | 0, m, d, _, h => by cases d <;> first | (cases m <;> exact h) | (exact False.elim h)
  | n + 1, m, d, hm, h => by
    obtain ⟨k, rfl⟩ : ∃ k, m = k + 1 := ⟨m - 1, by omega⟩
    cases d <;> first | exact h | (intro x hx; exact dok_mono (by omega) (h x hx))
theorem dok_py : ∀ {n : Nat} {d : D}, dok n d → ∃ p, d.py = some p ∧ p.canLay0 = true ∧ p.depth ≤ n + 1
  | n, .non, _ => ⟨.none, rfl, by simp [PyData.canLay0], by simp [PyData.depth]⟩
  | n, .bl b, _ => ⟨.bool b, rfl, by simp [PyData.canLay0], by simp [PyData.depth]⟩
  | n, .int b, _ => ⟨.int b, rfl, by simp [PyData.canLay0], by simp [PyData.depth]⟩
  | n, .str b, h => ⟨.str b, rfl, by simpa [PyData.canLay0, dok_str] using h, by simp [PyData.depth]⟩
  | 0, .tup ds, h => False.elim h
  | n + 1, .tup ds, h => by
    have h' : ∀ x ∈ ds, dok n x := h
    have key : ∀ l : List D, (∀ x ∈ l, dok n x) → ∃ ps, D.pys l = some ps ∧ PyData.canLayAll0 ps = true ∧ PyData.depthAll ps ≤ n + 1 := fun l => by
      induction l with
      | nil => intro _; exact ⟨[], rfl, by simp [PyData.canLayAll0], by simp [PyData.depthAll]⟩
      | cons x l ih =>
        intro q
        obtain ⟨p, e1, e2, e3⟩ := dok_py (q x List.mem_cons_self)
        obtain ⟨ps, f1, f2, f3⟩ := ih fun y hy => q y (List.mem_cons_of_mem _ hy)
        exact ⟨p :: ps, by simp [D.pys, e1, f1], by simp [PyData.canLayAll0, e2, f2], by simp only [PyData.depthAll]; omega⟩
    obtain ⟨ps, f1, f2, f3⟩ := key ds h'
    exact ⟨.tuple ps, by simp [D.py, f1], by simpa [PyData.canLay0] using f2, by simp only [PyData.depth]; omega⟩
  | n, .lst _, h => by cases n <;> exact False.elim h
  | n, .ty _, h => by cases n <;> exact False.elim h
  | n, .ref _, h => by cases n <;> exact False.elim h
  | n, .dct _ _, h => by cases n <;> exact False.elim h
theorem dok_ok {n : Nat} {d : D} (h : dok n d) (hn : n ≤ 60) : d.ok = true := by
  obtain ⟨p, e1, e2, e3⟩ := dok_py h
  simp only [D.ok,e1,SeqAt.shaped,e2,Bool.true_and]
  exact decide_eq_true (by omega)
theorem dEq_dok {u v : D} {n m : Nat} (hf : dEqF u v = none) (hu : dok n u) (hv : dok m v) (h1 : n ≤ 60 := by decide) (h2 : m ≤ 60 := by decide) : dEq u v = some (.bl (u.eqb v)) := dEq_ok hf (dok_ok hu h1) (dok_ok hv h2)
theorem usIns_len {α : Type} {lt : α → α → Bool} (x : α) : ∀ l : List α, (usIns lt x l).length ≤ l.length + 1
  | [] => by simp [usIns]
  | y :: l => by
    rw [usIns]
    have := usIns_len (lt := lt) x l
    split
    · simp
    · split
      · simp only [List.length_cons]; omega
      · simp
theorem usort_len {α : Type} {lt : α → α → Bool} : ∀ l : List α, (usort lt l).length ≤ l.length
  | [] => by simp [usort]
  | x :: l => by
    have := usIns_len (lt := lt) x (usort lt l)
    have := usort_len (lt := lt) l
    rw [usort, List.length_cons]; omega
theorem flatMap_len {α β : Type} {f : α → List β} {k : Nat} : ∀ {l : List α}, (∀ x ∈ l, (f x).length ≤ k) → (l.flatMap f).length ≤ l.length * k
  | [], _ => by simp
  | x :: l, h => by
    have := flatMap_len (l := l) fun y hy => h y (List.mem_cons_of_mem _ hy)
    have := h x List.mem_cons_self
    rw [List.flatMap_cons, List.length_append, List.length_cons, Nat.succ_mul]; omega
theorem srtQ_im {α : Type} {l : List α} {g : α → Int} {Q : D → Prop} (h : Q (.lst ((usI (l.map g)).map .int))) : SrtQ (l.map fun x => .inl (g x)) Q := by
  have : l.map (fun x => (Sum.inl (g x) : Key)) = (l.map g).map .inl := by rw [List.map_map]; rfl
  rw [this]; exact srtQ_i h
theorem srtQ_sm {α : Type} {l : List α} {g : α → Str} {Q : D → Prop} (h : Q (.lst ((usS (l.map g)).map .str))) : SrtQ (l.map fun x => .inr (g x)) Q := by
  have : l.map (fun x => (Sum.inr (g x) : Key)) = (l.map g).map .inr := by rw [List.map_map]; rfl
  rw [this]; exact srtQ_s h

/-! ### the trough: how it was stirred, great numbers, habits by place -/
def sS : Str := Str.ofString "stirred"
def sG : Str := Str.ofString "great"
def sH : Str := Str.ofString "habits"
def troughK (st : Int) (a1 a2 : Addr) : List (Key × D) := [(.inr sS, .int st), (.inr sG, .ref a1), (.inr sH, .ref a2)]
def KvOk (kvs : List (Key × D)) : Prop := (∀ kv ∈ kvs, (∃ i : Int, kv.1 = .inl i ∧ 0 ≤ i ∧ i < 100) ∧ ∃ h k : Int, kv.2 = .tup [.int h, .int k] ∧ 0 ≤ h ∧ h < 10) ∧ (kvs.map (·.1)).Nodup
structure TrS where
  (m0 m1 m2 m3 : MO)
  ok : ∃ (a1 a2 : Addr) (gs : List Int) (kvs : List (Key × D)) (st : Int), m1 = .la a1 (gs.map .int) ∧ m2 = .da a2 kvs ∧ m3 = .dic (troughK st a1 a2) ∧ gs.length ≤ 100 ∧ (∀ g ∈ gs, 0 ≤ g) ∧ KvOk kvs ∧ 0 ≤ st
def Jt (M : Mem) : Prop := ∃ t : TrS, M = [t.m0, t.m1, t.m2, t.m3]
theorem get_kv {kvs : List (Key × D)} {key : Key} {d : D} (o : KvOk kvs) (h : dGetK kvs key = some d) : ∃ h k : Int, d = .tup [.int h, .int k] ∧ 0 ≤ h ∧ h < 10 := by
  unfold dGetK at h
  cases hf : kvs.find? (fun kv => decide (kv.1 = key)) with
  | none => rw [hf] at h; cases h
  | some kv =>
    rw [hf] at h
    cases h
    exact (o.1 kv (List.mem_of_find?_eq_some hf)).2
theorem get_none {kvs : List (Key × D)} {key : Key} (h : dGetK kvs key = none) : key ∉ kvs.map (·.1) := by
  intro hm
  obtain ⟨kv, h1, rfl⟩ := List.mem_map.mp hm
  unfold dGetK at h
  rw [Option.map_eq_none_iff, List.find?_eq_none] at h
  exact h kv h1 (by simp)
theorem put_kv {kvs : List (Key × D)} {p h k : Int} (o : KvOk kvs) (hp : 0 ≤ p ∧ p < 100) (hh : 0 ≤ h ∧ h < 10) : KvOk (dPutK kvs (.inl p) (.tup [.int h, .int k])) := by
  refine ⟨fun kv hkv => ?_, dPutK_nodup o.2⟩
  rcases mem_dPutK hkv with rfl | hkv
  · exact ⟨⟨p, rfl, hp⟩, h, k, rfl, hh⟩
  · exact o.1 kv hkv
theorem kv_len {kvs : List (Key × D)} (o : KvOk kvs) : kvs.length ≤ 100 := by
  have := nodup_sub (ks := kvs.map (·.1)) (qs := (List.range 100).map fun i : Nat => (.inl (i : Int) : Key)) o.2 fun k hk => by
    obtain ⟨kv, h1, rfl⟩ := List.mem_map.mp hk
    obtain ⟨⟨i, h2, h3, h4⟩, _⟩ := o.1 kv h1
    rw [h2]; exact List.mem_map.mpr ⟨i.toNat, by simp; omega, by congr 1; omega⟩
  simpa using this
theorem gt_s {st : Int} {a1 a2 : Addr} : dGetK (troughK st a1 a2) (.inr (Str.ofString "stirred")) = some (.int st) := by
  unfold dGetK troughK; rw [List.find?_cons, decide_eq_true (show (Sum.inr sS : Key) = .inr (Str.ofString "stirred") from rfl)]; rfl
theorem gt_g {st : Int} {a1 a2 : Addr} : dGetK (troughK st a1 a2) (.inr (Str.ofString "great")) = some (.ref a1) := by
  have h1 : ((Sum.inr sS : Key) = .inr (Str.ofString "great")) = False := by simp [sS, ofS_inj]
  unfold dGetK troughK; simp [List.find?_cons, h1, sG]
theorem gt_h {st : Int} {a1 a2 : Addr} : dGetK (troughK st a1 a2) (.inr (Str.ofString "habits")) = some (.ref a2) := by
  have h1 : ((Sum.inr sS : Key) = .inr (Str.ofString "habits")) = False := by simp [sS, ofS_inj]
  have h2 : ((Sum.inr sG : Key) = .inr (Str.ofString "habits")) = False := by simp [sG, ofS_inj]
  unfold dGetK troughK; simp [List.find?_cons, h1, h2, sH]
theorem gt_p {st v : Int} {a1 a2 : Addr} : dPutK (troughK st a1 a2) (.inr (Str.ofString "stirred")) (.int v) = troughK v a1 a2 := by
  have h1 : ((Sum.inr sG : Key) = .inr (Str.ofString "stirred")) = False := by simp [sG, ofS_inj]
  have h2 : ((Sum.inr sH : Key) = .inr (Str.ofString "stirred")) = False := by simp [sH, ofS_inj]
  unfold dPutK
  rw [gt_s]
  simp [troughK, h1, h2, sS]

/-! ### rows of numbers in order -/
def insI (x : Int) : List Int → List Int
  | [] => [x]
  | y :: l => if x ≤ y then x :: y :: l else y :: insI x l
def isI : List Int → List Int
  | [] => []
  | x :: l => insI x (isI l)
abbrev Asc (l : List Int) : Prop := l.Pairwise fun a b => a ≤ b
theorem insI_perm (x : Int) : ∀ l : List Int, (insI x l).Perm (x :: l)
  | [] => .refl _
  | y :: l => by
    rw [insI]; split
    · exact .refl _
    · exact ((insI_perm x l).cons y).trans (.swap ..)
theorem isI_perm : ∀ l : List Int, (isI l).Perm l
  | [] => .refl _
  | x :: l => (insI_perm x _).trans ((isI_perm l).cons x)
theorem insI_asc (x : Int) : ∀ l : List Int, Asc l → Asc (insI x l)
  | [], _ => by simp [insI]
  | y :: l, h => by
    rw [insI]
    have h' := List.pairwise_cons.mp h
    split
    · rename_i c
      exact List.pairwise_cons.mpr ⟨fun z hz => by rcases List.mem_cons.mp hz with rfl | hz; exact c; exact Int.le_trans c (h'.1 z hz), h⟩
    · refine List.pairwise_cons.mpr ⟨fun z hz => ?_, insI_asc x l h'.2⟩
      rcases List.mem_cons.mp ((insI_perm x l).mem_iff.mp hz) with rfl | hz
      · omega
      · exact h'.1 z hz
theorem isI_asc : ∀ l : List Int, Asc (isI l)
  | [] => .nil
  | x :: l => insI_asc x _ (isI_asc l)
theorem isI_len (l : List Int) : (isI l).length = l.length := (isI_perm l).length_eq
theorem isI_mem {l : List Int} {x : Int} : x ∈ isI l ↔ x ∈ l := (isI_perm l).mem_iff
theorem srtI_isI (l : List Int) : srtI l = isI l := asc_perm (srtI_asc l) (isI_asc l) ((srtI_perm l).trans (isI_perm l).symm)
theorem isI_of {l : List Int} (h : Asc l) : isI l = l := asc_perm (isI_asc l) h (isI_perm l)
theorem isI_sl (ws : List Int) : fSorted [.lst (ws.map .int)] (.lst ((isI ws).map .int)) := by rw [← srtI_isI]; exact (srtI_s ws).1
theorem isI_st (ws : List Int) : fSorted [.tup (ws.map .int)] (.lst ((isI ws).map .int)) := by rw [← srtI_isI]; exact (srtI_s ws).2
/-- how many are at most v -/
def cn (v : Int) (l : List Int) : Nat := l.countP fun x => decide (x ≤ v)
theorem cn_nil {v : Int} : cn v [] = 0 := rfl
theorem cn_cons {v x : Int} {l : List Int} : cn v (x :: l) = cn v l + if x ≤ v then 1 else 0 := by
  unfold cn; rw [List.countP_cons]
  by_cases h : x ≤ v <;> simp [h]
theorem cn_app {v : Int} {a b : List Int} : cn v (a ++ b) = cn v a + cn v b := List.countP_append
theorem cn_isI {v : Int} {l : List Int} : cn v (isI l) = cn v l := (isI_perm l).countP_eq _
theorem cn_zero {v : Int} {l : List Int} (h : ∀ x ∈ l, v < x) : cn v l = 0 := by
  unfold cn; rw [List.countP_eq_zero]; intro x hx; have := h x hx; simp; omega
theorem cn_drop {v : Int} : ∀ {l : List Int} (k : Nat), Asc l → cn v (l.drop k) = cn v l - k
  | l, 0, _ => by simp
  | [], k + 1, _ => by simp [cn_nil]
  | x :: l, k + 1, h => by
    have h' := List.pairwise_cons.mp h
    rw [List.drop_succ_cons, cn_drop k h'.2, cn_cons]
    by_cases c : x ≤ v
    · rw [if_pos c]; omega
    · rw [cn_zero fun y hy => by have := h'.1 y hy; omega, if_neg c]; omega
theorem cn_take {v : Int} {l : List Int} (k : Nat) (h : Asc l) : cn v (l.take k) = min (cn v l) k := by
  have h1 : cn v (l.take k) + cn v (l.drop k) = cn v l := by rw [← cn_app, List.take_append_drop]
  rw [cn_drop k h] at h1
  have h2 : cn v (l.take k) ≤ k := Nat.le_trans (List.countP_le_length) (by rw [List.length_take]; omega)
  omega
theorem cn_count {x : Int} : ∀ l : List Int, cn x l = cn (x - 1) l + l.count x
  | [] => rfl
  | y :: l => by
    rw [cn_cons, cn_cons, List.count_cons, cn_count l]
    by_cases h : y = x
    · subst h; simp
      rw [if_neg (by omega)]; omega
    · have h2 : (y == x) = false := by simpa using h
      rw [h2]
      by_cases h3 : y ≤ x
      · rw [if_pos h3, if_pos (by omega)]; simp; omega
      · rw [if_neg h3, if_neg (by omega)]; simp
theorem cn_ext {a b : List Int} (ha : Asc a) (hb : Asc b) (h : ∀ v, cn v a = cn v b) : a = b := asc_perm ha hb (List.perm_iff_count.mpr fun x => by
  have h1 := cn_count (x := x) a
  have h2 := cn_count (x := x) b
  have h3 := h x
  have h4 := h (x - 1)
  omega)
theorem asc_drop {l : List Int} (k : Nat) (h : Asc l) : Asc (l.drop k) := h.sublist (List.drop_sublist k l)

/-! ### commands, recipes -/
inductive C1 where | take | peek | drop
inductive C2 where | move | pour | swap
inductive Cm where
  | put (a : Str) (c : Key) | c1 (w : C1) (a : Str) | c2 (w : C2) (a b : Str)
def C1.s : C1 → Str | .take => Str.ofString "take" | .peek => Str.ofString "peek" | .drop => Str.ofString "drop"
def C2.s : C2 → Str | .move => Str.ofString "move" | .pour => Str.ofString "pour" | .swap => Str.ofString "swap"
def cmD : Cm → D
  | .put a c => .tup [.str (Str.ofString "put"), .str a, kD c]
  | .c1 w a => .tup [.str w.s, .str a]
  | .c2 w a b => .tup [.str w.s, .str a, .str b]
def isNb : D → Bool | .int _ => true | _ => false
def putD : Cm → D | .put _ c => kD c | _ => .non
def isOP : Cm → Bool | .put _ (.inr _) => true | _ => false
def oP : Cm → Str | .put _ (.inr x) => x | _ => Str.empty
def isNP : Cm → Bool | .put _ (.inl _) => true | _ => false
def nP : Cm → Int | .put _ (.inl x) => x | _ => 0
def rawO (r : List Cm) : List Str := (r.filter isOP).map oP
def rawN (r : List Cm) : List Int := (r.filter isNP).map nP
def opensR (r : List Cm) : List Str := usS (rawO r)
def numsR (r : List Cm) : List Int := usI (rawN r)
def opensA (rs : List (List Cm)) : List Str := usS (rs.flatMap opensR)
def numsA (rs : List (List Cm)) : List Int := usI (rs.flatMap numsR)
def rcD (r : List Cm) : D := .tup (r.map cmD)
/-- few recipes of few commands -/
def RsOk (rs : List (List Cm)) : Prop := rs.length ≤ 20 ∧ ∀ r ∈ rs, r.length ≤ 100
theorem rawO_len (r : List Cm) : (rawO r).length ≤ r.length := by unfold rawO; rw [List.length_map]; exact List.length_filter_le _ _
theorem rawN_len (r : List Cm) : (rawN r).length ≤ r.length := by unfold rawN; rw [List.length_map]; exact List.length_filter_le _ _
theorem opensR_len (r : List Cm) : (opensR r).length ≤ r.length := Nat.le_trans (usort_len _) (rawO_len r)
theorem numsR_len (r : List Cm) : (numsR r).length ≤ r.length := Nat.le_trans (usort_len _) (rawN_len r)

/-! ### what puts and drops on one bin come to -/
abbrev Lt := List Int × Nat × List Int
def ltD (l : Lt) : D := .tup [.tup (l.1.map .int), .int l.2.1, .tup (l.2.2.map .int)]
def l0 : Lt := ([], 0, [])
def joinL (a b : Lt) : Lt := (isI (a.1 ++ (isI (a.2.2 ++ b.1)).take b.2.1), a.2.1 + b.2.1, isI ((isI (a.2.2 ++ b.1)).drop b.2.1 ++ b.2.2))
def oneL : Option Int → Lt
  | some n => ([], 0, [n])
  | none => ([], 1, [])
def lotsL (r : List (Option Int)) : Lt := r.foldl (fun l c => joinL l (oneL c)) l0
def powL (l : Lt) : Nat → Lt
  | 0 => l0
  | n + 1 => joinL (powL l n) l
def doneL (l : Lt) (ts : List Int) : List Int := isI ((isI (l.1 ++ ts)).drop l.2.1 ++ l.2.2)
def stepO (h : List Int) : Option Int → List Int
  | some n => isI (h ++ [n])
  | none => h.drop 1
def doneO (r : List (Option Int)) (ts : List Int) : List Int := r.foldl stepO ts
def recO (l : Lt) : List (Option Int) := l.1.map some ++ List.replicate l.2.1 none ++ l.2.2.map some
def szL (l : Lt) : Nat := l.1.length + l.2.1 + l.2.2.length
def cmO (nm : Str) : Option Int → Cm
  | some n => .put nm (.inl n)
  | none => .c1 .drop nm
abbrev SR := Str × List (Option Int)
def srcm (p : SR) : List Cm := p.2.map (cmO p.1)
def NumO (r : List (Option Int)) : Prop := ∀ n : Int, some n ∈ r → 0 ≤ n ∧ n ≤ 999
def NumL (l : Lt) : Prop := (∀ n ∈ l.1, 0 ≤ n ∧ n ≤ 999) ∧ ∀ n ∈ l.2.2, 0 ≤ n ∧ n ≤ 999
def OkL (l : Lt) : Prop := NumL l ∧ Asc l.1 ∧ Asc l.2.2 ∧ l.1.length ≤ l.2.1
theorem szL_join (a b : Lt) : szL (joinL a b) = szL a + szL b := by
  simp only [szL,joinL,isI_len,List.length_append,List.length_take,List.length_drop]; omega
theorem szL_one (c : Option Int) : szL (oneL c) = 1 := by cases c <;> rfl
theorem szL_0 : szL l0 = 0 := rfl
theorem szL_fold : ∀ (r : List (Option Int)) (l : Lt), szL (r.foldl (fun l c => joinL l (oneL c)) l) = szL l + r.length
  | [], l => rfl
  | c :: r, l => by rw [List.foldl_cons, szL_fold r, szL_join, szL_one, List.length_cons]; omega
theorem szL_lots (r : List (Option Int)) : szL (lotsL r) = r.length := by rw [lotsL, szL_fold, szL_0]; omega
theorem szL_pow (l : Lt) : ∀ n, szL (powL l n) = n * szL l
  | 0 => by rw [powL, szL_0]; omega
  | n + 1 => by rw [powL, szL_join, szL_pow l n, Nat.succ_mul]
theorem szL_parts (l : Lt) : l.1.length ≤ szL l ∧ l.2.1 ≤ szL l ∧ l.2.2.length ≤ szL l := by unfold szL; omega
theorem recO_len (l : Lt) : (recO l).length = szL l := by simp [recO, szL]; omega
theorem okL_0 : OkL l0 := ⟨⟨by simp [l0], by simp [l0]⟩, .nil, .nil, Nat.le_refl _⟩
theorem okL_join {a b : Lt} (ha : OkL a) (hb : OkL b) : OkL (joinL a b) := by
  obtain ⟨⟨a1, a2⟩, a3, a4, a5⟩ := ha
  obtain ⟨⟨b1, b2⟩, b3, b4, b5⟩ := hb
  have hrow : ∀ n ∈ isI (a.2.2 ++ b.1), 0 ≤ n ∧ n ≤ 999 := fun n hn => by
    rcases List.mem_append.mp (isI_mem.mp hn) with h | h
    · exact a2 n h
    · exact b1 n h
  refine ⟨⟨fun n hn => ?_, fun n hn => ?_⟩, isI_asc _, isI_asc _, ?_⟩
  · rcases List.mem_append.mp (isI_mem.mp hn) with h | h
    · exact a1 n h
    · exact hrow n (List.mem_of_mem_take h)
  · rcases List.mem_append.mp (isI_mem.mp hn) with h | h
    · exact hrow n (List.mem_of_mem_drop h)
    · exact b2 n h
  · show (isI _).length ≤ a.2.1 + b.2.1
    rw [isI_len, List.length_append, List.length_take]; omega
theorem okL_one {c : Option Int} (h : ∀ n, c = some n → 0 ≤ n ∧ n ≤ 999) : OkL (oneL c) := by
  cases c with
  | none => exact ⟨⟨by simp [oneL], by simp [oneL]⟩, .nil, .nil, by simp [oneL]⟩
  | some n => exact ⟨⟨by simp [oneL], by simpa [oneL] using h n rfl⟩, .nil, by simp [oneL], by simp [oneL]⟩
theorem okL_fold : ∀ (r : List (Option Int)) (l : Lt), OkL l → NumO r → OkL (r.foldl (fun l c => joinL l (oneL c)) l)
  | [], l, h, _ => h
  | c :: r, l, h, hn => okL_fold r _ (okL_join h (okL_one fun n e => hn n (by rw [e]; exact List.mem_cons_self))) fun n h => hn n (List.mem_cons_of_mem _ h)
theorem okL_lots {r : List (Option Int)} (h : NumO r) : OkL (lotsL r) := okL_fold r _ okL_0 h
theorem okL_pow {l : Lt} (h : OkL l) : ∀ n, OkL (powL l n)
  | 0 => okL_0
  | n + 1 => okL_join (okL_pow h n) h
theorem cn_done {v : Int} (l : Lt) (ts : List Int) : cn v (doneL l ts) = (cn v l.1 + cn v ts - l.2.1) + cn v l.2.2 := by
  rw [doneL, cn_isI, cn_app, cn_drop _ (isI_asc _), cn_isI, cn_app]
theorem done_join (a b : Lt) (ts : List Int) : doneL (joinL a b) ts = doneL b (doneL a ts) := by
  refine cn_ext (isI_asc _) (isI_asc _) fun v => ?_
  rw [cn_done, cn_done, cn_done]
  simp only [joinL,cn_isI,cn_app,cn_take _ (isI_asc _),cn_drop _ (isI_asc _)]
  omega
theorem done_one (c : Option Int) {ts : List Int} (h : Asc ts) : doneL (oneL c) ts = stepO ts c := by
  cases c with
  | some n =>
    refine cn_ext (isI_asc _) (isI_asc _) fun v => ?_
    rw [cn_done, stepO, cn_isI, cn_app]; simp [oneL, cn_nil]
  | none =>
    refine cn_ext (isI_asc _) (asc_drop 1 h) fun v => ?_
    rw [cn_done, stepO, cn_drop 1 h]; simp [oneL, cn_nil]
theorem step_asc (c : Option Int) {ts : List Int} (h : Asc ts) : Asc (stepO ts c) := by
  cases c with
  | some n => exact isI_asc _
  | none => exact asc_drop 1 h
theorem done_fold : ∀ (r : List (Option Int)) (l : Lt) (ts : List Int), doneL (r.foldl (fun l c => joinL l (oneL c)) l) ts = doneO r (doneL l ts)
  | [], l, ts => rfl
  | c :: r, l, ts => by
    rw [List.foldl_cons, done_fold r, done_join, done_one c (ts := doneL l ts) (isI_asc _)]; rfl
theorem done_lots (r : List (Option Int)) {ts : List Int} (h : Asc ts) : doneL (lotsL r) ts = doneO r ts := by
  rw [lotsL, done_fold]
  have : doneL l0 ts = ts := by
    refine cn_ext (isI_asc _) h fun v => ?_
    rw [cn_done]; simp [l0, cn_nil]
  rw [this]
theorem doneO_asc : ∀ (r : List (Option Int)) {ts : List Int}, Asc ts → Asc (doneO r ts)
  | [], _, h => h
  | c :: r, ts, h => doneO_asc r (step_asc c h)
theorem doneO_app (a b : List (Option Int)) (ts : List Int) : doneO (a ++ b) ts = doneO b (doneO a ts) := by rw [doneO, List.foldl_append]; rfl
theorem done_lots2 (r s : List (Option Int)) {ts : List Int} (h : Asc ts) : doneL (joinL (lotsL r) (lotsL s)) ts = doneO (r ++ s) ts := by
  rw [done_join, done_lots r h, done_lots s (doneO_asc r h), doneO_app]
theorem doneO_len : ∀ (r : List (Option Int)) (ts : List Int), (doneO r ts).length ≤ ts.length + r.length
  | [], ts => Nat.le_refl _
  | c :: r, ts => by
    have h1 := doneO_len r (stepO ts c)
    have h2 : (stepO ts c).length ≤ ts.length + 1 := by cases c <;> simp [stepO, isI_len]; omega
    rw [doneO, List.foldl_cons, List.length_cons]; simp only [doneO] at h1; omega
theorem doneL_len (l : Lt) (ts : List Int) : (doneL l ts).length ≤ ts.length + szL l := by
  simp only [doneL,szL,isI_len,List.length_append,List.length_drop]; omega
theorem ltD_plain (l : Lt) : plain (ltD l) = true := by simp [ltD, Dw.plain, plains, plains_ints]
theorem ltD_psz (l : Lt) : psz (ltD l) ≤ szL l + 4 := by simp only [ltD,psz,pszs,pszs_ints,szL]; omega
theorem ltD_dok (l : Lt) : dok 2 (ltD l) := by
  intro x hx
  simp at hx
  rcases hx with rfl | rfl | rfl
  · intro y hy; obtain ⟨n, _, rfl⟩ := List.mem_map.mp hy; trivial
  · trivial
  · intro y hy; obtain ⟨n, _, rfl⟩ := List.mem_map.mp hy; trivial
theorem ltD_eq (a b : Lt) : dEq (ltD a) (ltD b) = some (.bl ((ltD a).eqb (ltD b))) := dEq_dok rfl (ltD_dok a) (ltD_dok b)
theorem srcm_plain (p : SR) : plain (rcD (srcm p)) = true := by
  show plains _ = true
  refine plains_map fun c hc => ?_
  obtain ⟨o, _, rfl⟩ := List.mem_map.mp hc
  cases o <;> rfl
theorem srcm_psz (p : SR) : psz (rcD (srcm p)) ≤ p.2.length * 4 + 1 := by
  have := pszs_map_le (f := cmD) (l := srcm p) (k := 4) fun c hc => by
    obtain ⟨o, _, rfl⟩ := List.mem_map.mp hc
    cases o <;> simp [cmO, cmD, kD, psz, pszs]
  rw [rcD, psz]
  have h2 : (srcm p).length = p.2.length := List.length_map _
  rw [h2] at this; omega
def ocD (nm : Str) : Option Int → D
  | some n => .tup [.str (Str.ofString "put"), .str nm, .int n]
  | none => .tup [.str (Str.ofString "drop"), .str nm]
theorem srcm_get {p : SR} {i : Nat} {d : D} (h : ((srcm p).map cmD)[i]? = some d) : ∃ o, p.2[i]? = some o ∧ d = ocD p.1 o := by
  obtain ⟨c, hc, rfl⟩ := map_get h
  rw [srcm, List.getElem?_map] at hc
  cases ho : p.2[i]? with
  | none => rw [ho] at hc; cases hc
  | some o => rw [ho] at hc; cases hc; exact ⟨o, rfl, by cases o <;> rfl⟩
theorem srcm_len (p : SR) : (srcm p).length = p.2.length := List.length_map _

/-! ### rows of lots in order -/
open PySem.W in
def ltP (l : Lt) : PyData := .tuple [.tuple (l.1.map .int), .int (l.2.1 : Int), .tuple (l.2.2.map .int)]
theorem pys_ints : ∀ ns : List Int, D.pys (ns.map D.int) = some (ns.map PyData.int)
  | [] => rfl
  | n :: ns => by rw [List.map_cons, D.pys, pys_ints ns]; rfl
theorem ltD_py (l : Lt) : (ltD l).py = some (ltP l) := by
  simp [ltD, D.py, D.pys, pys_ints, ltP]
def ltL (a b : Lt) : Prop := a.1 < b.1 ∨ a.1 = b.1 ∧ (a.2.1 < b.2.1 ∨ a.2.1 = b.2.1 ∧ a.2.2 < b.2.2)
instance (a b : Lt) : Decidable (ltL a b) := by unfold ltL; infer_instance
theorem eqv_ints : ∀ xs ys : List Int, PyData.eqvAll (xs.map .int) (ys.map .int) = decide (xs = ys)
  | [], [] => by simp [PyData.eqvAll]
  | [], _ :: _ => by simp [PyData.eqvAll]
  | _ :: _, [] => by simp [PyData.eqvAll]
  | x :: xs, y :: ys => by
    rw [List.map_cons, List.map_cons, PyData.eqvAll, eqv_ints xs ys]
    by_cases h1 : x = y <;> by_cases h2 : xs = ys <;> simp [PyData.eqv, h1, h2]
theorem lex_nil : PyProof.Rows.lexLt itemOrd (PySem.W.keyToksAll []) (PySem.W.keyToksAll []) = false := PyProof.Rows.lex_irrefl _
theorem dlt_ints (xs ys : List Int) : PySem.W.dataLt (.tuple (xs.map .int)) (.tuple (ys.map .int)) = decide (xs < ys) := by
  rw [PySem.W.dataLt_tuple]; exact PySem.W.dataLt_ints xs ys
theorem lt_lt (a b : Lt) : PySem.W.dataLt (ltP a) (ltP b) = decide (ltL a b) := by
  have h1 : PySem.W.alike (.tuple (a.1.map .int)) (.tuple (b.1.map .int)) = true := by simpa [PySem.W.alike] using PySem.W.alike_ints _ _
  have h3 : PySem.W.alike (.tuple (a.2.2.map .int)) (.tuple (b.2.2.map .int)) = true := by simpa [PySem.W.alike] using PySem.W.alike_ints _ _
  have h2 : PySem.W.alike (.int (a.2.1 : Int)) (.int (b.2.1 : Int)) = true := by simp [PySem.W.alike]
  have e1 : PyData.eqv (.tuple (a.1.map .int)) (.tuple (b.1.map .int)) = decide (a.1 = b.1) := by simpa [PyData.eqv] using eqv_ints a.1 b.1
  have e3 : PyData.eqv (.tuple (a.2.2.map .int)) (.tuple (b.2.2.map .int)) = decide (a.2.2 = b.2.2) := by simpa [PyData.eqv] using eqv_ints a.2.2 b.2.2
  have e2 : PyData.eqv (.int (a.2.1 : Int)) (.int (b.2.1 : Int)) = decide (a.2.1 = b.2.1) := by simp only [PyData.eqv]; rw [Bool.eq_iff_iff]; simp; omega
  rw [ltP, ltP, PySem.W.dataLt_tuple, PySem.W.dataLt_cons h1, PySem.W.dataLt_cons h2, PySem.W.dataLt_cons h3, e1, e2, e3, lex_nil, dlt_ints, dlt_ints, PySem.W.dataLt_int]
  unfold ltL
  by_cases c1 : a.1 = b.1
  · have n1 : ¬ b.1 < b.1 := List.lt_irrefl _
    by_cases c2 : a.2.1 = b.2.1
    · by_cases c3 : a.2.2 = b.2.2
      · have n3 : ¬ b.2.2 < b.2.2 := List.lt_irrefl _
        simp [c1, c2, c3, n1, n3]
      · simp [c1, c2, c3, n1]
    · simp [c1, c2, n1]
  · simp [c1]
def leL (a b : Lt) : Bool := !decide (ltL b a)
theorem leL_refl_anti {a b : Lt} (h1 : leL a b = true) (h2 : leL b a = true) : a = b := by
  have h1' : ¬ ltL b a := by simpa [leL] using h1
  have h2' : ¬ ltL a b := by simpa [leL] using h2
  unfold ltL at h1' h2'
  have anti : ∀ {x y : List Int}, ¬ x < y → ¬ y < x → x = y := fun p q => List.le_antisymm (List.not_lt.mp q) (List.not_lt.mp p)
  have e1 : a.1 = b.1 := anti (fun z => h2' (.inl z)) (fun z => h1' (.inl z))
  have e2 : a.2.1 = b.2.1 := by
    have p : ¬ a.2.1 < b.2.1 := fun z => h2' (.inr ⟨e1, .inl z⟩)
    have q : ¬ b.2.1 < a.2.1 := fun z => h1' (.inr ⟨e1.symm, .inl z⟩)
    omega
  have e3 : a.2.2 = b.2.2 := anti (fun z => h2' (.inr ⟨e1, .inr ⟨e2, z⟩⟩)) (fun z => h1' (.inr ⟨e1.symm, .inr ⟨e2.symm, z⟩⟩))
  exact Prod.ext e1 (Prod.ext e2 e3)
theorem leL_total (a b : Lt) : (leL a b || leL b a) = true := by
  simp only [leL,Bool.or_eq_true,Bool.not_eq_true',decide_eq_false_iff_not]
  by_cases h : ltL b a
  · right
    unfold ltL at h ⊢
    rintro (z | ⟨e, z⟩)
    · rcases h with h | ⟨e', h⟩
      · exact List.lt_irrefl _ (List.lt_trans z h)
      · rw [e'] at z; exact List.lt_irrefl _ z
    · rcases h with h | ⟨e', h⟩
      · rw [e] at h; exact List.lt_irrefl _ h
      · rcases z with z | ⟨e2, z⟩
        · rcases h with h | ⟨e3, h⟩ <;> omega
        · rcases h with h | ⟨e3, h⟩
          · omega
          · exact List.lt_irrefl _ (List.lt_trans z h)
  · exact .inl h
theorem leL_trans (a b c : Lt) (h1 : leL a b = true) (h2 : leL b c = true) : leL a c = true := by
  simp only [leL,Bool.not_eq_true',decide_eq_false_iff_not] at h1 h2 ⊢
  have ne : ∀ {x y : List Int}, ¬ x < y → y ≤ x := fun h => List.not_lt.mp h
  unfold ltL at h1 h2 ⊢
  have p1 : a.1 ≤ b.1 := ne fun z => h1 (.inl z)
  have p2 : b.1 ≤ c.1 := ne fun z => h2 (.inl z)
  rintro (z | ⟨e, z⟩)
  · exact List.not_lt.mpr (List.le_trans p1 p2) z
  · have e1 : a.1 = b.1 := List.le_antisymm p1 (e ▸ p2)
    have e2 : b.1 = c.1 := e1.symm.trans e.symm
    have q1 : ¬ b.2.1 < a.2.1 := fun z => h1 (.inr ⟨e1.symm, .inl z⟩)
    have q2 : ¬ c.2.1 < b.2.1 := fun z => h2 (.inr ⟨e2.symm, .inl z⟩)
    rcases z with z | ⟨e3, z⟩
    · omega
    · have e4 : b.2.1 = a.2.1 := by omega
      have e5 : c.2.1 = b.2.1 := by omega
      have r1 : a.2.2 ≤ b.2.2 := ne fun z => h1 (.inr ⟨e1.symm, .inr ⟨e4, z⟩⟩)
      have r2 : b.2.2 ≤ c.2.2 := ne fun z => h2 (.inr ⟨e2.symm, .inr ⟨e5, z⟩⟩)
      exact List.not_lt.mpr (List.le_trans r1 r2) z
def srtL (l : List Lt) : List Lt := l.mergeSort leL
theorem srtL_perm (l : List Lt) : (srtL l).Perm l := List.mergeSort_perm _ _
theorem srtL_asc (l : List Lt) : (srtL l).Pairwise fun a b => leL a b = true := List.pairwise_mergeSort leL_trans leL_total l
theorem ascL_perm : ∀ {a b : List Lt}, a.Pairwise (fun a b => leL a b = true) → b.Pairwise (fun a b => leL a b = true) → a.Perm b → a = b
  | [], b, _, _, p => (List.Perm.eq_nil p.symm).symm
  | x :: a, [], _, _, p => by have := p.length_eq; simp at this
  | x :: a, y :: b, ha, hb, p => by
    have h1 := List.pairwise_cons.mp ha
    have h2 := List.pairwise_cons.mp hb
    have e : x = y := by
      have hx : x ∈ y :: b := p.mem_iff.mp List.mem_cons_self
      have hy : y ∈ x :: a := p.mem_iff.mpr List.mem_cons_self
      rcases List.mem_cons.mp hx with e | hx
      · exact e
      · rcases List.mem_cons.mp hy with e | hy
        · exact e.symm
        · exact leL_refl_anti (h1.1 y hy) (h2.1 x hx)
    subst e
    rw [ascL_perm h1.2 h2.2 (List.Perm.cons_inv p)]
theorem srtL_congr {a b : List Lt} (p : a.Perm b) : srtL a = srtL b := ascL_perm (srtL_asc a) (srtL_asc b) ((srtL_perm a).trans (p.trans (srtL_perm b).symm))
theorem dLeB_lt (a b : Lt) : dLeB (ltD a) (ltD b) = leL a b := by
  have k : ∀ l, D.key (ltD l) = ltP l := fun l => by unfold D.key; rw [ltD_py]; rfl
  unfold dLeB
  rw [PySem.W.dataLe_eq]
  show (!PySem.W.dataLt (D.key (ltD b)) (D.key (ltD a))) = _
  rw [k, k, lt_lt]; rfl
theorem pys_lts : ∀ ls : List Lt, D.pys (ls.map ltD) = some (ls.map ltP)
  | [] => rfl
  | l :: ls => by rw [List.map_cons, D.pys, pys_lts ls, ltD_py]; rfl
theorem srtOk_lt (ls : List Lt) : SrtOk (ls.map ltP) := by
  refine ⟨PySem.W.AllAlike.of fun a b => ?_, .inl (PySem.W.Sortable.tuples fun l => ⟨_, _, rfl⟩), fun d hd => ?_⟩
  · have h1 := PySem.W.alike_ints a.1 b.1
    have h3 := PySem.W.alike_ints a.2.2 b.2.2
    simp [ltP, PySem.W.alike, PySem.W.alikeAll, h1, h3]
  · obtain ⟨l, _, rfl⟩ := List.mem_map.mp hd
    have hd : ∀ ns : List Int, PyData.depthAll (ns.map .int) ≤ 1 := fun ns => by
      induction ns with
      | nil => simp [PyData.depthAll]
      | cons n ns ih => simp [PyData.depthAll, PyData.depth] at ih ⊢; omega
    have h1 := hd l.1
    have h2 := hd l.2.2
    simp only [ltP,PyData.depth,PyData.depthAll]; omega
theorem srtL_s (ls : List Lt) : fSorted [.lst (ls.map ltD)] (.lst ((srtL ls).map ltD)) := by
  have m := List.map_mergeSort (f := ltD) (r := leL) (s := dLeB) (l := ls) fun a _ b _ => (dLeB_lt a b).symm
  exact ⟨_, _, rfl, pys_lts ls, srtOk_lt ls, by rw [srtL, m]⟩

def oI : Option Int → D
  | some i => .int i
  | none => .non
def strI (i : Int) : Str := (toString i : String)
theorem log_ok {i : Int} (h0 : -1000000 ≤ i) (h1 : i ≤ 1000000) : i.natAbs.log2 < 1920 := by
  have : i.natAbs < 2 ^ 20 := by omega
  by_cases h : i.natAbs = 0
  · rw [h]; decide
  · have := (Nat.log2_lt h).mpr this; omega
theorem strI_len1 : ∀ n : Fin 2001, (strI ((n.val : Int) - 1000)).length ≤ 10 := by decide +kernel
theorem strI_len {i : Int} (h0 : -1000 ≤ i) (h1 : i ≤ 1000) : (strI i).length ≤ 10 := by
  have := strI_len1 ⟨(i + 1000).toNat, by omega⟩
  simp only at this
  rwa [show (((i + 1000).toNat : Int) - 1000) = i by omega] at this
theorem sum_le {l : List Nat} {k : Nat} (h : ∀ x ∈ l, x ≤ k) : l.sum ≤ l.length * k := by
  induction l with
  | nil => simp
  | cons x l ih =>
    have := ih fun y hy => h y (List.mem_cons_of_mem _ hy)
    have := h x List.mem_cons_self
    rw [List.sum_cons, List.length_cons, Nat.succ_mul]; omega
theorem strs_len {r : List Int} (h : ∀ n ∈ r, -1000 ≤ n ∧ n ≤ 1000) : ((r.map strI).map (·.length)).sum ≤ r.length * 10 := by
  have := sum_le (l := (r.map strI).map (·.length)) (k := 10) fun x hx => by
    obtain ⟨y, hy, rfl⟩ := List.mem_map.mp hx
    obtain ⟨z, hz, rfl⟩ := List.mem_map.mp hy
    exact strI_len (h z hz).1 (h z hz).2
  simpa using this
def lineL (a : Lt) : Str := Txt.join (Str.ofString " ") (a.1.map strI ++ [Str.ofString "/", strI a.2.1, Str.ofString "/"] ++ a.2.2.map strI)
def eqL (a b : Lt) : Bool := (ltD a).eqb (ltD b)
def rowsOk (k : Nat) (ls : List Lt) : Prop := ls.length ≤ 100 ∧ ∀ l ∈ ls, szL l ≤ k
def lsD (ls : List Lt) : D := .tup (ls.map ltD)
def tabF (ls : List Lt) : D := .tup (ls.map fun a => .tup (ls.map fun b => ltD (joinL a b)))
def allF (ls : List Lt) : Lt := ls.foldl joinL l0
def oLt : Option Lt → D
  | some l => ltD l
  | none => .non
def divL (a g : Lt) (ls : List Lt) : Option Lt := ls.find? fun b => eqL (joinL a b) g
def divR (a g : Lt) (ls : List Lt) : Option Lt := ls.find? fun b => eqL (joinL b a) g
def comF (ls : List Lt) (i : Nat) : List D := ((List.range (ls.length - 1 - i)).filter fun j => eqL (joinL (ls.getD i l0) (ls.getD (i + 1 + j) l0)) (joinL (ls.getD (i + 1 + j) l0) (ls.getD i l0))).map fun j => .tup [.int i, .int ((i + 1 + j : Nat) : Int)]
theorem comF_len (ls : List Lt) (i : Nat) : (comF ls i).length ≤ ls.length := by
  rw [comF, List.length_map]
  exact Nat.le_trans (List.length_filter_le _ _) (by simp; omega)
/-! ### rows that rise -/
def rnN (m most : Nat) : Nat → Nat
  | 0 => 1
  | s + 1 => rnN m most s * (m + most - s) / (s + 1)
def rsF (m k : Nat) : Nat := rnN m k k
def nxtF (ns row : List Int) : List (List Int) := (ns.filter fun x => decide (row = [] ∨ row.getLastD 0 ≤ x)).map fun x => row ++ [x]
def rwD (r : List Int) : D := .tup (r.map .int)
def lvlF (ns : List Int) : Nat → List (List Int)
  | 0 => [[]]
  | k + 1 => (lvlF ns k).flatMap (nxtF ns)
def rowsF (ns : List Int) (k : Nat) : List (List Int) := (List.range (k + 1)).flatMap (lvlF ns)
def NS : List (List Int) := [[], [0], [1, 2], [5, 7, 999], [0, 3, 4, 998], [1], [1, 2, 3, 4, 5]]
def firstsN (n a d : Nat) : Nat := ((List.range (d + 1)).map fun m => rsF n (min a m)).sum
def prgM (ns : List Int) (a b m : Nat) : List Lt := (rowsF ns (min a m)).flatMap fun f => (rowsF ns b).map fun l => (f, m, l)
def prgL (ns : List Int) (a d b : Nat) : List Lt := (List.range (d + 1)).flatMap (prgM ns a b)
theorem rows_len : ∀ ns ∈ NS, ∀ k : Fin 6, (rowsF ns k.val).length = rsF ns.length k.val := by decide +kernel
theorem rs_ok : ∀ m k : Fin 6, ∀ s : Fin 7, rnN m.val k.val s.val ≤ 100000 := by decide +kernel
theorem lvl_le6 : ∀ ns ∈ NS, ∀ k : Fin 6, (lvlF ns k.val).length ≤ 1000 ∧ (rowsF ns k.val).length ≤ 1000 := by decide +kernel
theorem lvl_le {ns : List Int} {k : Nat} {ls : List (List Int)} (hn : ns ∈ NS) (hk : k ≤ 5) (h : ls = lvlF ns k) : ls.length ≤ 1000 := by rw [h]; exact (lvl_le6 ns hn ⟨k, by omega⟩).1
theorem rows_le {ns : List Int} {k : Nat} {ls : List (List Int)} (hn : ns ∈ NS) (hk : k ≤ 5) (h : ls = rowsF ns k) : ls.length ≤ 1000 := by rw [h]; exact (lvl_le6 ns hn ⟨k, by omega⟩).2
theorem lvl_row : ∀ {ns : List Int} {k : Nat} {r : List Int}, r ∈ lvlF ns k → r.length = k
  | _, 0, r, h => by rw [List.mem_singleton.mp h]; rfl
  | ns, k + 1, r, h => by
    rw [lvlF, List.mem_flatMap] at h
    obtain ⟨row, h1, h2⟩ := h
    obtain ⟨x, _, rfl⟩ := List.mem_map.mp h2
    rw [List.length_append, lvl_row h1]; rfl
theorem sumN0 (l : List Nat) : fSumB [.lst (l.map fun x : Nat => D.int x)] (.int (l.sum : Nat)) := by
  have h : l.map (fun x : Nat => D.int x) = (l.map fun x : Nat => (x : Int)).map .int := by rw [List.map_map]; rfl
  have h2 : ((l.sum : Nat) : Int) = (l.map fun x : Nat => (x : Int)).sum := by
    clear h
    induction l with
    | nil => rfl
    | cons x l ih => simp only [List.map_cons,List.sum_cons,Int.natCast_add,ih]
  rw [h, h2]; exact fSumB_l
theorem sum_mul {α : Type} {f : α → Nat} {k : Nat} : ∀ l : List α, (l.map fun x => f x * k).sum = (l.map f).sum * k
  | [] => by simp
  | x :: l => by rw [List.map_cons, List.sum_cons, sum_mul l, List.map_cons, List.sum_cons, Nat.add_mul]
theorem fm_take {α β : Type} (f : α → List β) (l : List α) (i : Nat) : ((l.take i).flatMap f).length ≤ (l.flatMap f).length := by
  have h := congrArg (fun z => (z.flatMap f).length) (List.take_append_drop i l)
  simp only [List.flatMap_append,List.length_append] at h; omega
theorem prg_len {ns : List Int} {a d b : Nat} (hn : ns ∈ NS) (ha : a ≤ 5) (hb : b ≤ 5) : (prgL ns a d b).length = firstsN ns.length a d * rsF ns.length b := by
  rw [prgL, List.length_flatMap, firstsN, ← sum_mul]
  congr 1
  refine List.map_congr_left fun m _ => ?_
  have h1 := rows_len ns hn ⟨min a m, by omega⟩
  have h2 := rows_len ns hn ⟨b, by omega⟩
  simp only at h1 h2
  rw [prgM, List.length_flatMap, ← h1, ← h2]
  generalize rowsF ns (min a m) = A
  induction A with
  | nil => simp
  | cons x A ih => rw [List.map_cons, List.sum_cons, ih, List.length_map, List.length_cons, Nat.succ_mul]; omega
theorem sumN {α : Type} {f : α → Nat} (l : List α) : fSumB [.lst (l.map fun x => D.int (f x : Nat))] (.int ((l.map f).sum : Nat)) := by
  have h : l.map (fun x => D.int (f x : Nat)) = (l.map fun x => ((f x : Nat) : Int)).map .int := by rw [List.map_map]; rfl
  have h2 : (((l.map f).sum : Nat) : Int) = (l.map fun x => ((f x : Nat) : Int)).sum := by
    induction l with
    | nil => rfl
    | cons x l ih => simp only [List.map_cons,List.sum_cons,Int.natCast_add] at *; rw [ih (by rw [List.map_map]; rfl)]
  rw [h, h2]; exact fSumB_l
theorem NS_len : ∀ ns ∈ NS, ns.length ≤ 5 := by decide
def cnRow (n : Nat) : Nat → List Nat
  | 0 => List.replicate n 1
  | k + 1 => (List.range n).map fun i => ((cnRow n k).take (i + 1)).sum
def cntF (n : Nat) : Nat → Nat
  | 0 => 1
  | k + 1 => cntF n k + (cnRow n k).sum
theorem cn_ok : ∀ n k : Fin 6, cntF n.val k.val = rsF n.val k.val ∧ (cnRow n.val k.val).length = n.val ∧ (cnRow n.val k.val).sum ≤ 1000000 := by decide +kernel
def totZ (n d b : Nat) : Nat → Int
  | 0 => 0
  | i + 1 => totZ n d b i + ((rsF n i : Int) - if 0 < i then (rsF n (i - 1) : Int) else 0) * ((d : Int) - i + 1) * rsF n b
theorem tot_ok : ∀ n : Fin 5, ∀ a : Fin 4, ∀ d : Fin 5, ∀ b : Fin 4, totZ n.val d.val b.val (min a.val d.val + 1) = ((firstsN n.val a.val d.val * rsF n.val b.val : Nat) : Int) := by decide +kernel
def lwF (ns : List Int) (b d : Nat) (f : List Int) : List Lt := (List.range (d + 1 - f.length)).flatMap fun j => (rowsF ns b).map fun l => (f, f.length + j, l)
def lawL (ns : List Int) (a d b : Nat) : List Lt := ((List.range (min a d + 1)).flatMap (lvlF ns)).flatMap (lwF ns b d)
theorem fm_perm {α β : Type} {f g : α → List β} : ∀ {l : List α}, (∀ x ∈ l, (f x).Perm (g x)) → (l.flatMap f).Perm (l.flatMap g)
  | [], _ => .refl _
  | x :: l, h => by
    rw [List.flatMap_cons, List.flatMap_cons]
    exact (h x List.mem_cons_self).append (fm_perm fun y hy => h y (List.mem_cons_of_mem _ hy))
theorem fm_nil {α β : Type} (l : List α) : l.flatMap (fun _ => ([] : List β)) = [] := by induction l <;> simp_all
theorem fm_append {α β : Type} (f g : α → List β) : ∀ l : List α, (l.flatMap fun x => f x ++ g x).Perm (l.flatMap f ++ l.flatMap g)
  | [] => .refl _
  | x :: l => by
    rw [List.flatMap_cons, List.flatMap_cons, List.flatMap_cons]
    refine ((fm_append f g l).append_left _).trans ?_
    rw [List.append_assoc, List.append_assoc]
    refine List.Perm.append_left _ ?_
    rw [← List.append_assoc, ← List.append_assoc]
    exact List.perm_append_comm.append_right _
theorem fm_swap {α β γ : Type} (h : α → β → List γ) : ∀ (l1 : List α) (l2 : List β), (l1.flatMap fun x => l2.flatMap fun y => h x y).Perm (l2.flatMap fun y => l1.flatMap fun x => h x y)
  | [], l2 => by simp [fm_nil]
  | x :: l1, l2 => by
    rw [List.flatMap_cons]
    refine ((fm_swap h l1 l2).append_left _).trans ?_
    refine (fm_append (fun y => h x y) (fun y => l1.flatMap fun x => h x y) l2).symm.trans ?_
    exact fm_perm fun y _ => by rw [List.flatMap_cons]
/-- a part of a range at its begin -/
theorem fm_if {β : Type} (g : Nat → List β) (k : Nat) : ∀ n : Nat, k ≤ n → (List.range k).flatMap g = (List.range n).flatMap fun i => if i < k then g i else []
  | n, h => by
    obtain ⟨j, rfl⟩ : ∃ j, n = k + j := ⟨n - k, by omega⟩
    rw [List.range_add, List.flatMap_append]
    have e1 : (List.range k).flatMap (fun i => if i < k then g i else []) = (List.range k).flatMap g := by
      rw [List.flatMap_def, List.flatMap_def]
      congr 1
      exact List.map_congr_left fun i hi => if_pos (List.mem_range.mp hi)
    have e2 : ((List.range j).map fun x => k + x).flatMap (fun i => if i < k then g i else []) = [] := by
      rw [List.flatMap_eq_nil_iff]
      intro x hx
      obtain ⟨y, _, rfl⟩ := List.mem_map.mp hx
      exact if_neg (by omega)
    rw [e1, e2, List.append_nil]
/-- a part of a range at its end -/
theorem fm_if2 {β : Type} (g : Nat → List β) (k : Nat) : ∀ n : Nat, ((List.range (n - k)).flatMap fun j => g (k + j)) = (List.range n).flatMap fun i => if k ≤ i then g i else []
  | n => by
    by_cases h : k ≤ n
    · obtain ⟨j, rfl⟩ : ∃ j, n = k + j := ⟨n - k, by omega⟩
      rw [List.range_add, List.flatMap_append, show k + j - k = j by omega]
      have e1 : (List.range k).flatMap (fun i => if k ≤ i then g i else []) = [] := by
        rw [List.flatMap_eq_nil_iff]
        intro x hx
        have := List.mem_range.mp hx
        exact if_neg (by omega)
      rw [e1, List.nil_append, List.flatMap_map]
      rw [List.flatMap_def, List.flatMap_def]
      congr 1
      exact List.map_congr_left fun i _ => (if_pos (by omega)).symm
    · rw [show n - k = 0 by omega]
      symm
      show (List.range n).flatMap _ = []
      rw [List.flatMap_eq_nil_iff]
      intro x hx
      have := List.mem_range.mp hx
      exact if_neg (by omega)
theorem fm_assoc {α β γ : Type} (l : List α) (f : α → List β) (g : β → List γ) : (l.flatMap f).flatMap g = l.flatMap fun x => (f x).flatMap g := List.flatMap_assoc
theorem law_perm (ns : List Int) (a d b : Nat) : (lawL ns a d b).Perm (prgL ns a d b) := by
  have h1 : prgL ns a d b = (List.range (d + 1)).flatMap fun m => (List.range (min a d + 1)).flatMap fun k => if k ≤ m then ((lvlF ns k).flatMap fun f => (rowsF ns b).map fun l => ((f, m, l) : Lt)) else [] := by
    rw [prgL, List.flatMap_def, List.flatMap_def]
    congr 1
    refine List.map_congr_left fun m hm => ?_
    have hm' := List.mem_range.mp hm
    rw [prgM, show rowsF ns (min a m) = (List.range (min a m + 1)).flatMap (lvlF ns) from rfl, fm_assoc, fm_if _ (min a m + 1) (min a d + 1) (by omega), List.flatMap_def, List.flatMap_def]
    congr 1
    refine List.map_congr_left fun k hk => ?_
    have hk' := List.mem_range.mp hk
    by_cases h : k ≤ m
    · rw [if_pos (by omega), if_pos h]
    · rw [if_neg (by omega), if_neg h]
  have h2 : (lawL ns a d b).Perm ((List.range (min a d + 1)).flatMap fun k => (List.range (d + 1)).flatMap fun m => if k ≤ m then ((lvlF ns k).flatMap fun f => (rowsF ns b).map fun l => ((f, m, l) : Lt)) else []) := by
    rw [lawL, fm_assoc]
    refine fm_perm fun k hk => ?_
    have e1 : (lvlF ns k).flatMap (lwF ns b d) = (lvlF ns k).flatMap fun f => (List.range (d + 1 - k)).flatMap fun j => (rowsF ns b).map fun l => ((f, k + j, l) : Lt) := by
      rw [List.flatMap_def, List.flatMap_def]
      congr 1
      refine List.map_congr_left fun f hf => ?_
      rw [lwF, lvl_row hf]
    rw [e1]
    refine (fm_swap _ _ _).trans ?_
    rw [fm_if2 (fun m => (lvlF ns k).flatMap fun f => (rowsF ns b).map fun l => ((f, m, l) : Lt)) k (d + 1)]
  rw [h1]
  exact h2.trans (fm_swap _ _ _)
def allD (ns : List Int) (a n b : Nat) : D := if 600 < firstsN ns.length a n * rsF ns.length b then .non else .tup ((srtL (prgL ns a n b)).map ltD)
theorem ltD_i0 (l : Lt) : dIx (ltD l) (.int 0) = some (.tup (l.1.map .int)) := rfl
theorem ltD_i1 (l : Lt) : dIx (ltD l) (.int 1) = some (.int l.2.1) := rfl
theorem ltD_i2 (l : Lt) : dIx (ltD l) (.int 2) = some (.tup (l.2.2.map .int)) := rfl
theorem cn_puts {v : Int} : ∀ (ns ts : List Int), cn v (doneO (ns.map some) ts) = cn v ts + cn v ns
  | [], ts => rfl
  | n :: ns, ts => by
    show cn v (doneO (ns.map some) (stepO ts (some n))) = _
    rw [cn_puts ns, stepO, cn_isI, cn_app, cn_cons, cn_cons, cn_nil]; omega
theorem cn_drops {v : Int} : ∀ (k : Nat) {ts : List Int}, Asc ts → cn v (doneO (List.replicate k none) ts) = cn v ts - k
  | 0, ts, _ => rfl
  | k + 1, ts, h => by
    show cn v (doneO (List.replicate k none) (stepO ts none)) = _
    rw [cn_drops k (step_asc none h), stepO, cn_drop 1 h]; omega
theorem rec_done (a : Lt) {ts : List Int} (h : Asc ts) : doneO (recO a) ts = doneL a ts := by
  refine cn_ext (doneO_asc _ h) (isI_asc _) fun v => ?_
  rw [cn_done, recO, doneO_app, doneO_app, cn_puts, cn_drops _ (doneO_asc _ h), cn_puts]
  omega
theorem headO {l : List Int} {A : D → Prop} (h : A (oI l.head?)) : if 0 < (l.length : Int) then ∃ z, Option.map D.int (L2.atI l 0) = some z ∧ A z else A .non := by
  cases l with
  | nil => exact h
  | cons x l => rw [if_pos (by simp)]; exact ⟨.int x, by rw [show L2.atI (x :: l) 0 = some x from atI_0]; rfl, h⟩
theorem oI_plain (o : Option Int) : plain (oI o) = true := by cases o <;> rfl
theorem oI_psz (o : Option Int) : psz (oI o) ≤ 1 := by cases o <;> simp [oI, psz]
theorem find0 {p : Lt → Bool} {ls : List Lt} : L2.atI ((ls.filter p).map ltD ++ [.non]) 0 = some (oLt (ls.find? p)) := by
  rw [← List.head?_filter]
  cases ls.filter p with
  | nil => exact atI_0
  | cons x l => exact atI_0
theorem oLt_plain (o : Option Lt) : plain (oLt o) = true := by
  cases o with
  | none => rfl
  | some l => exact ltD_plain l
theorem oLt_psz (o : Option Lt) (h : ∀ l, o = some l → szL l ≤ 7) : psz (oLt o) ≤ 11 := by
  cases o with
  | none => simp [oLt, psz]
  | some l => have := ltD_psz l; have := h l rfl; show psz (ltD l) ≤ 11; omega
theorem prg_sz {ns : List Int} {a n b : Nat} {l : Lt} (h : l ∈ prgL ns a n b) : szL l ≤ a + n + b := by
  rw [prgL, List.mem_flatMap] at h
  obtain ⟨m, hm, h⟩ := h
  rw [prgM, List.mem_flatMap] at h
  obtain ⟨f, hf, h⟩ := h
  obtain ⟨g, hg, rfl⟩ := List.mem_map.mp h
  rw [rowsF, List.mem_flatMap] at hf hg
  obtain ⟨k1, hk1, hf⟩ := hf
  obtain ⟨k2, hk2, hg⟩ := hg
  have h1 := lvl_row hf
  have h2 := lvl_row hg
  have := List.mem_range.mp hm
  have := List.mem_range.mp hk1
  have := List.mem_range.mp hk2
  simp only [szL]; omega
theorem rs_le {m k : Nat} (h1 : m ≤ 5) (h2 : k ≤ 5) : rsF m k ≤ 100000 := by
  have := rs_ok ⟨m, by omega⟩ ⟨k, by omega⟩ ⟨k, by omega⟩
  exact this
theorem fLen_rw {r : List Int} {z : D} : fLen [rwD r] z ↔ z = .int r.length := by rw [rwD, fLen_t, List.length_map]
end Lk26
set_option Elab.async false
set_option linter.all false
set_option maxRecDepth 100000
set_option maxHeartbeats 4000000
namespace Lk26
open PySem PySem.Spec PyProof.Rows L2 Dw
/-- the exception classes -/
structure Cs where
  (BadCall LikeError : Addr)
def top (i : Nat) : Stmt := PySem.Challenge.pw_likethings_k26_lottables.main.body.getD i (.Pass ⟨0, 0, 0, 0⟩)
abbrev s_joined_lots : Stmt := top 5
theorem sc_joined_lots : FnScope ["one", "other", "first", "drops", "last", "more", "further", "behind", "rows"] ["one", "other"] (defScope s_joined_lots) := ⟨rfl, rfl, rfl, by decide +kernel, rfl, by decide +kernel, by decide +kernel⟩
abbrev s_done_by_lots : Stmt := top 6
theorem sc_done_by_lots : FnScope ["lots", "things"] ["lots", "things"] (defScope s_done_by_lots) := ⟨rfl, rfl, rfl, by decide +kernel, rfl, by decide +kernel, by decide +kernel⟩
abbrev s_lots_size : Stmt := top 7
theorem sc_lots_size : FnScope ["lots"] ["lots"] (defScope s_lots_size) := ⟨rfl, rfl, rfl, by decide +kernel, rfl, by decide +kernel, by decide +kernel⟩
abbrev s_rising_number : Stmt := top 9
theorem sc_rising_number : FnScope ["many", "most", "told", "step"] ["many", "most"] (defScope s_rising_number) := ⟨rfl, rfl, rfl, by decide +kernel, rfl, by decide +kernel, by decide +kernel⟩
abbrev s_all_lots_over : Stmt := top 11
theorem sc_all_lots_over : FnScope ["numbers", "ahead", "drops", "behind", "size", "firsts", "told", "many", "first", "last"] ["numbers", "ahead", "drops", "behind"] (defScope s_all_lots_over) := ⟨rfl, rfl, rfl, by decide +kernel, rfl, by decide +kernel, by decide +kernel⟩
abbrev s__rows : Stmt := top 12
theorem sc__rows : FnScope ["numbers", "most", "told", "last", "_", "row", "one"] ["numbers", "most"] (defScope s__rows) := ⟨rfl, rfl, rfl, by decide +kernel, rfl, by decide +kernel, by decide +kernel⟩
abbrev s_product_table : Stmt := top 13
theorem sc_product_table : FnScope ["rows", "one", "other"] ["rows"] (defScope s_product_table) := ⟨rfl, rfl, rfl, by decide +kernel, rfl, by decide +kernel, by decide +kernel⟩
abbrev s_lots_commute : Stmt := top 14
theorem sc_lots_commute : FnScope ["one", "other"] ["one", "other"] (defScope s_lots_commute) := ⟨rfl, rfl, rfl, by decide +kernel, rfl, by decide +kernel, by decide +kernel⟩
abbrev s_commuting_pairs : Stmt := top 15
theorem sc_commuting_pairs : FnScope ["rows", "told", "one", "other"] ["rows"] (defScope s_commuting_pairs) := ⟨rfl, rfl, rfl, by decide +kernel, rfl, by decide +kernel, by decide +kernel⟩
abbrev s_is_idle_lots : Stmt := top 16
theorem sc_is_idle_lots : FnScope ["lots"] ["lots"] (defScope s_is_idle_lots) := ⟨rfl, rfl, rfl, by decide +kernel, rfl, by decide +kernel, by decide +kernel⟩
abbrev s_divides_left : Stmt := top 17
theorem sc_divides_left : FnScope ["one", "goal", "rows", "other"] ["one", "goal", "rows"] (defScope s_divides_left) := ⟨rfl, rfl, rfl, by decide +kernel, rfl, by decide +kernel, by decide +kernel⟩
abbrev s_divides_right : Stmt := top 18
theorem sc_divides_right : FnScope ["one", "goal", "rows", "other"] ["one", "goal", "rows"] (defScope s_divides_right) := ⟨rfl, rfl, rfl, by decide +kernel, rfl, by decide +kernel, by decide +kernel⟩
abbrev s_joined_all : Stmt := top 19
theorem sc_joined_all : FnScope ["rows", "told", "lots"] ["rows"] (defScope s_joined_all) := ⟨rfl, rfl, rfl, by decide +kernel, rfl, by decide +kernel, by decide +kernel⟩
abbrev s_change_of : Stmt := top 20
theorem sc_change_of : FnScope ["lots"] ["lots"] (defScope s_change_of) := ⟨rfl, rfl, rfl, by decide +kernel, rfl, by decide +kernel, by decide +kernel⟩
abbrev s_unknown_taken : Stmt := top 21
theorem sc_unknown_taken : FnScope ["lots"] ["lots"] (defScope s_unknown_taken) := ⟨rfl, rfl, rfl, by decide +kernel, rfl, by decide +kernel, by decide +kernel⟩
abbrev s_power_sizes : Stmt := top 22
theorem sc_power_sizes : FnScope ["lots", "times", "here", "told", "_"] ["lots", "times"] (defScope s_power_sizes) := ⟨rfl, rfl, rfl, by decide +kernel, rfl, by decide +kernel, by decide +kernel⟩
abbrev s_kept_least : Stmt := top 23
theorem sc_kept_least : FnScope ["lots", "things", "left"] ["lots", "things"] (defScope s_kept_least) := ⟨rfl, rfl, rfl, by decide +kernel, rfl, by decide +kernel, by decide +kernel⟩
abbrev s_least_kept_number : Stmt := top 24
theorem sc_least_kept_number : FnScope ["lots"] ["lots"] (defScope s_least_kept_number) := ⟨rfl, rfl, rfl, by decide +kernel, rfl, by decide +kernel, by decide +kernel⟩
abbrev s_lots_line : Stmt := top 25
theorem sc_lots_line : FnScope ["lots", "words", "one"] ["lots"] (defScope s_lots_line) := ⟨rfl, rfl, rfl, by decide +kernel, rfl, by decide +kernel, by decide +kernel⟩
abbrev s__law_trough : Stmt := top 27
theorem sc__law_trough : FnScope ["script", "stirred", "great", "cell", "size"] ["script"] (defScope s__law_trough) := ⟨rfl, rfl, rfl, by decide +kernel, rfl, by decide +kernel, by decide +kernel⟩
abbrev s__law_ladle : Stmt := top 28
theorem sc__law_ladle : FnScope ["trough", "many", "size"] ["trough", "many"] (defScope s__law_ladle) := ⟨rfl, rfl, rfl, by decide +kernel, rfl, by decide +kernel, by decide +kernel⟩
abbrev s__law_habit : Stmt := top 29
theorem sc__law_habit : FnScope ["trough", "place", "many", "kind", "value", "free"] ["trough", "place", "many"] (defScope s__law_habit) := ⟨rfl, rfl, rfl, by decide +kernel, rfl, by decide +kernel, by decide +kernel⟩
abbrev s__law_same : Stmt := top 30
theorem sc__law_same : FnScope ["told", "due", "todo", "one", "other", "at"] ["told", "due"] (defScope s__law_same) := ⟨rfl, rfl, rfl, by decide +kernel, rfl, by decide +kernel, by decide +kernel⟩
abbrev s__law_silent : Stmt := top 31
theorem sc__law_silent : FnScope ["trough", "name", "most", "told", "lap", "number"] ["trough", "name", "most"] (defScope s__law_silent) := ⟨rfl, rfl, rfl, by decide +kernel, rfl, by decide +kernel, by decide +kernel⟩
abbrev s__law_done : Stmt := top 32
theorem sc__law_done : FnScope ["recipe", "things", "held", "command"] ["recipe", "things"] (defScope s__law_done) := ⟨rfl, rfl, rfl, by decide +kernel, rfl, by decide +kernel, by decide +kernel⟩
abbrev s__law_joined : Stmt := top 33
theorem sc__law_joined : FnScope ["one", "other", "first", "drops", "last", "between"] ["one", "other"] (defScope s__law_joined) := ⟨rfl, rfl, rfl, by decide +kernel, rfl, by decide +kernel, by decide +kernel⟩
abbrev s__law_lots : Stmt := top 34
theorem sc__law_lots : FnScope ["recipe", "lots", "command"] ["recipe"] (defScope s__law_lots) := ⟨rfl, rfl, rfl, by decide +kernel, rfl, by decide +kernel, by decide +kernel⟩
abbrev s__law_recipe : Stmt := top 35
theorem sc__law_recipe : FnScope ["lots", "name", "first", "drops", "last", "number"] ["lots", "name"] (defScope s__law_recipe) := ⟨rfl, rfl, rfl, by decide +kernel, rfl, by decide +kernel, by decide +kernel⟩
abbrev s__law_things : Stmt := top 36
theorem sc__law_things : FnScope ["trough", "most", "many", "rows", "lap"] ["trough", "most"] (defScope s__law_things) := ⟨rfl, rfl, rfl, by decide +kernel, rfl, by decide +kernel, by decide +kernel⟩
abbrev s__law_rising : Stmt := top 37
theorem sc__law_rising : FnScope ["numbers", "many", "rows", "lap", "more", "row", "number"] ["numbers", "many"] (defScope s__law_rising) := ⟨rfl, rfl, rfl, by decide +kernel, rfl, by decide +kernel, by decide +kernel⟩
abbrev s__law_count : Stmt := top 38
theorem sc__law_count : FnScope ["many", "most", "row", "total", "lap", "at"] ["many", "most"] (defScope s__law_count) := ⟨rfl, rfl, rfl, by decide +kernel, rfl, by decide +kernel, by decide +kernel⟩
abbrev s__law_all : Stmt := top 39
theorem sc__law_all : FnScope ["numbers", "ahead", "drops", "behind", "last", "total", "many", "firsts", "lasts", "found", "first", "number", "one"] ["numbers", "ahead", "drops", "behind"] (defScope s__law_all) := ⟨rfl, rfl, rfl, by decide +kernel, rfl, by decide +kernel, by decide +kernel⟩
abbrev s__law_heard : Stmt := top 40
theorem sc__law_heard : FnScope ["numbers", "ahead", "drops", "behind", "error"] ["numbers", "ahead", "drops", "behind"] (defScope s__law_heard) := ⟨rfl, rfl, rfl, by decide +kernel, rfl, by decide +kernel, by decide +kernel⟩
abbrev s__law_some : Stmt := top 41
theorem sc__law_some : FnScope ["trough", "way", "number", "other", "small"] ["trough"] (defScope s__law_some) := ⟨rfl, rfl, rfl, by decide +kernel, rfl, by decide +kernel, by decide +kernel⟩
abbrev s__law_tables_asked : Stmt := top 42
theorem sc__law_tables_asked : FnScope ["trough", "rows", "table", "pairs", "whole", "i", "j", "one", "told", "goal", "right", "left", "other"] ["trough", "rows"] (defScope s__law_tables_asked) := ⟨rfl, rfl, rfl, by decide +kernel, rfl, by decide +kernel, by decide +kernel⟩
abbrev s__law_looks_asked : Stmt := top 43
theorem sc__law_looks_asked : FnScope ["trough", "lots", "first", "drops", "last", "things", "times", "sizes", "power", "lap", "left", "line", "told", "due", "one"] ["trough", "lots"] (defScope s__law_looks_asked) := ⟨rfl, rfl, rfl, by decide +kernel, rfl, by decide +kernel, by decide +kernel⟩
abbrev s__law_over_asked : Stmt := top 44
theorem sc__law_over_asked : FnScope ["trough", "numbers", "ahead", "drops", "behind", "found"] ["trough"] (defScope s__law_over_asked) := ⟨rfl, rfl, rfl, by decide +kernel, rfl, by decide +kernel, by decide +kernel⟩
abbrev s__law_hand : Stmt := top 45
theorem sc__law_hand : FnScope ["drops", "told"] [] (defScope s__law_hand) := ⟨rfl, rfl, rfl, by decide +kernel, rfl, by decide +kernel, by decide +kernel⟩
abbrev s_law : Stmt := top 46
theorem sc_law : FnScope ["script", "trough", "lap", "rows", "turn"] ["script"] (defScope s_law) := ⟨rfl, rfl, rfl, by decide +kernel, rfl, by decide +kernel, by decide +kernel⟩
def cbody (st : Stmt) (j : Nat) : Stmt := match st with | .ClassDef (body := b) .. => b.getD j (.Pass ⟨0, 0, 0, 0⟩) | _ => .Pass ⟨0, 0, 0, 0⟩
abbrev m_BadCall : Stmt := cbody (top 3) 0
theorem scI_BadCall : FnScope ["self", "word"] ["self", "word"] (defScope m_BadCall) := ⟨rfl, rfl, rfl, by decide +kernel, rfl, by decide +kernel, by decide +kernel⟩
/-- what the top has left -/
structure Tx (K : PySem.W.Frag) (mg : Str → Option Value) where
  a_joined_lots : Addr
  fd_joined_lots : FuncData
  F_joined_lots : FunD K "joined_lots" "joined_lots" (defArgs s_joined_lots) (defBody s_joined_lots) (defScope s_joined_lots) [] [] a_joined_lots fd_joined_lots
  g_joined_lots : mg "joined_lots" = some (.ref a_joined_lots)
  a_done_by_lots : Addr
  fd_done_by_lots : FuncData
  F_done_by_lots : FunD K "done_by_lots" "done_by_lots" (defArgs s_done_by_lots) (defBody s_done_by_lots) (defScope s_done_by_lots) [] [] a_done_by_lots fd_done_by_lots
  g_done_by_lots : mg "done_by_lots" = some (.ref a_done_by_lots)
  a_lots_size : Addr
  fd_lots_size : FuncData
  F_lots_size : FunD K "lots_size" "lots_size" (defArgs s_lots_size) (defBody s_lots_size) (defScope s_lots_size) [] [] a_lots_size fd_lots_size
  g_lots_size : mg "lots_size" = some (.ref a_lots_size)
  a_rising_number : Addr
  fd_rising_number : FuncData
  F_rising_number : FunD K "rising_number" "rising_number" (defArgs s_rising_number) (defBody s_rising_number) (defScope s_rising_number) [] [] a_rising_number fd_rising_number
  g_rising_number : mg "rising_number" = some (.ref a_rising_number)
  a_all_lots_over : Addr
  fd_all_lots_over : FuncData
  F_all_lots_over : FunD K "all_lots_over" "all_lots_over" (defArgs s_all_lots_over) (defBody s_all_lots_over) (defScope s_all_lots_over) [] [] a_all_lots_over fd_all_lots_over
  g_all_lots_over : mg "all_lots_over" = some (.ref a_all_lots_over)
  a__rows : Addr
  fd__rows : FuncData
  F__rows : FunD K "_rows" "_rows" (defArgs s__rows) (defBody s__rows) (defScope s__rows) [] [] a__rows fd__rows
  g__rows : mg "_rows" = some (.ref a__rows)
  a_product_table : Addr
  fd_product_table : FuncData
  F_product_table : FunD K "product_table" "product_table" (defArgs s_product_table) (defBody s_product_table) (defScope s_product_table) [] [] a_product_table fd_product_table
  g_product_table : mg "product_table" = some (.ref a_product_table)
  a_lots_commute : Addr
  fd_lots_commute : FuncData
  F_lots_commute : FunD K "lots_commute" "lots_commute" (defArgs s_lots_commute) (defBody s_lots_commute) (defScope s_lots_commute) [] [] a_lots_commute fd_lots_commute
  g_lots_commute : mg "lots_commute" = some (.ref a_lots_commute)
  a_commuting_pairs : Addr
  fd_commuting_pairs : FuncData
  F_commuting_pairs : FunD K "commuting_pairs" "commuting_pairs" (defArgs s_commuting_pairs) (defBody s_commuting_pairs) (defScope s_commuting_pairs) [] [] a_commuting_pairs fd_commuting_pairs
  g_commuting_pairs : mg "commuting_pairs" = some (.ref a_commuting_pairs)
  a_is_idle_lots : Addr
  fd_is_idle_lots : FuncData
  F_is_idle_lots : FunD K "is_idle_lots" "is_idle_lots" (defArgs s_is_idle_lots) (defBody s_is_idle_lots) (defScope s_is_idle_lots) [] [] a_is_idle_lots fd_is_idle_lots
  g_is_idle_lots : mg "is_idle_lots" = some (.ref a_is_idle_lots)
  a_divides_left : Addr
  fd_divides_left : FuncData
  F_divides_left : FunD K "divides_left" "divides_left" (defArgs s_divides_left) (defBody s_divides_left) (defScope s_divides_left) [] [] a_divides_left fd_divides_left
  g_divides_left : mg "divides_left" = some (.ref a_divides_left)
  a_divides_right : Addr
  fd_divides_right : FuncData
  F_divides_right : FunD K "divides_right" "divides_right" (defArgs s_divides_right) (defBody s_divides_right) (defScope s_divides_right) [] [] a_divides_right fd_divides_right
  g_divides_right : mg "divides_right" = some (.ref a_divides_right)
  a_joined_all : Addr
  fd_joined_all : FuncData
  F_joined_all : FunD K "joined_all" "joined_all" (defArgs s_joined_all) (defBody s_joined_all) (defScope s_joined_all) [] [] a_joined_all fd_joined_all
  g_joined_all : mg "joined_all" = some (.ref a_joined_all)
  a_change_of : Addr
  fd_change_of : FuncData
  F_change_of : FunD K "change_of" "change_of" (defArgs s_change_of) (defBody s_change_of) (defScope s_change_of) [] [] a_change_of fd_change_of
  g_change_of : mg "change_of" = some (.ref a_change_of)
  a_unknown_taken : Addr
  fd_unknown_taken : FuncData
  F_unknown_taken : FunD K "unknown_taken" "unknown_taken" (defArgs s_unknown_taken) (defBody s_unknown_taken) (defScope s_unknown_taken) [] [] a_unknown_taken fd_unknown_taken
  g_unknown_taken : mg "unknown_taken" = some (.ref a_unknown_taken)
  a_power_sizes : Addr
  fd_power_sizes : FuncData
  F_power_sizes : FunD K "power_sizes" "power_sizes" (defArgs s_power_sizes) (defBody s_power_sizes) (defScope s_power_sizes) [] [] a_power_sizes fd_power_sizes
  g_power_sizes : mg "power_sizes" = some (.ref a_power_sizes)
  a_kept_least : Addr
  fd_kept_least : FuncData
  F_kept_least : FunD K "kept_least" "kept_least" (defArgs s_kept_least) (defBody s_kept_least) (defScope s_kept_least) [] [] a_kept_least fd_kept_least
  g_kept_least : mg "kept_least" = some (.ref a_kept_least)
  a_least_kept_number : Addr
  fd_least_kept_number : FuncData
  F_least_kept_number : FunD K "least_kept_number" "least_kept_number" (defArgs s_least_kept_number) (defBody s_least_kept_number) (defScope s_least_kept_number) [] [] a_least_kept_number fd_least_kept_number
  g_least_kept_number : mg "least_kept_number" = some (.ref a_least_kept_number)
  a_lots_line : Addr
  fd_lots_line : FuncData
  F_lots_line : FunD K "lots_line" "lots_line" (defArgs s_lots_line) (defBody s_lots_line) (defScope s_lots_line) [] [] a_lots_line fd_lots_line
  g_lots_line : mg "lots_line" = some (.ref a_lots_line)
  a__law_trough : Addr
  fd__law_trough : FuncData
  F__law_trough : FunD K "_law_trough" "_law_trough" (defArgs s__law_trough) (defBody s__law_trough) (defScope s__law_trough) [] [] a__law_trough fd__law_trough
  g__law_trough : mg "_law_trough" = some (.ref a__law_trough)
  a__law_ladle : Addr
  fd__law_ladle : FuncData
  F__law_ladle : FunD K "_law_ladle" "_law_ladle" (defArgs s__law_ladle) (defBody s__law_ladle) (defScope s__law_ladle) [] [] a__law_ladle fd__law_ladle
  g__law_ladle : mg "_law_ladle" = some (.ref a__law_ladle)
  a__law_habit : Addr
  fd__law_habit : FuncData
  F__law_habit : FunD K "_law_habit" "_law_habit" (defArgs s__law_habit) (defBody s__law_habit) (defScope s__law_habit) [] [] a__law_habit fd__law_habit
  g__law_habit : mg "_law_habit" = some (.ref a__law_habit)
  a__law_same : Addr
  fd__law_same : FuncData
  F__law_same : FunD K "_law_same" "_law_same" (defArgs s__law_same) (defBody s__law_same) (defScope s__law_same) [] [] a__law_same fd__law_same
  g__law_same : mg "_law_same" = some (.ref a__law_same)
  a__law_silent : Addr
  fd__law_silent : FuncData
  F__law_silent : FunD K "_law_silent" "_law_silent" (defArgs s__law_silent) (defBody s__law_silent) (defScope s__law_silent) [] [] a__law_silent fd__law_silent
  g__law_silent : mg "_law_silent" = some (.ref a__law_silent)
  a__law_done : Addr
  fd__law_done : FuncData
  F__law_done : FunD K "_law_done" "_law_done" (defArgs s__law_done) (defBody s__law_done) (defScope s__law_done) [] [] a__law_done fd__law_done
  g__law_done : mg "_law_done" = some (.ref a__law_done)
  a__law_joined : Addr
  fd__law_joined : FuncData
  F__law_joined : FunD K "_law_joined" "_law_joined" (defArgs s__law_joined) (defBody s__law_joined) (defScope s__law_joined) [] [] a__law_joined fd__law_joined
  g__law_joined : mg "_law_joined" = some (.ref a__law_joined)
  a__law_lots : Addr
  fd__law_lots : FuncData
  F__law_lots : FunD K "_law_lots" "_law_lots" (defArgs s__law_lots) (defBody s__law_lots) (defScope s__law_lots) [] [] a__law_lots fd__law_lots
  g__law_lots : mg "_law_lots" = some (.ref a__law_lots)
  a__law_recipe : Addr
  fd__law_recipe : FuncData
  F__law_recipe : FunD K "_law_recipe" "_law_recipe" (defArgs s__law_recipe) (defBody s__law_recipe) (defScope s__law_recipe) [] [] a__law_recipe fd__law_recipe
  g__law_recipe : mg "_law_recipe" = some (.ref a__law_recipe)
  a__law_things : Addr
  fd__law_things : FuncData
  F__law_things : FunD K "_law_things" "_law_things" (defArgs s__law_things) (defBody s__law_things) (defScope s__law_things) [] [] a__law_things fd__law_things
  g__law_things : mg "_law_things" = some (.ref a__law_things)
  a__law_rising : Addr
  fd__law_rising : FuncData
  F__law_rising : FunD K "_law_rising" "_law_rising" (defArgs s__law_rising) (defBody s__law_rising) (defScope s__law_rising) [] [] a__law_rising fd__law_rising
  g__law_rising : mg "_law_rising" = some (.ref a__law_rising)
  a__law_count : Addr
  fd__law_count : FuncData
  F__law_count : FunD K "_law_count" "_law_count" (defArgs s__law_count) (defBody s__law_count) (defScope s__law_count) [] [] a__law_count fd__law_count
  g__law_count : mg "_law_count" = some (.ref a__law_count)
  a__law_all : Addr
  fd__law_all : FuncData
  F__law_all : FunD K "_law_all" "_law_all" (defArgs s__law_all) (defBody s__law_all) (defScope s__law_all) [] [] a__law_all fd__law_all
  g__law_all : mg "_law_all" = some (.ref a__law_all)
  a__law_heard : Addr
  fd__law_heard : FuncData
  F__law_heard : FunD K "_law_heard" "_law_heard" (defArgs s__law_heard) (defBody s__law_heard) (defScope s__law_heard) [] [] a__law_heard fd__law_heard
  g__law_heard : mg "_law_heard" = some (.ref a__law_heard)
  a__law_some : Addr
  fd__law_some : FuncData
  F__law_some : FunD K "_law_some" "_law_some" (defArgs s__law_some) (defBody s__law_some) (defScope s__law_some) [] [] a__law_some fd__law_some
  g__law_some : mg "_law_some" = some (.ref a__law_some)
  a__law_tables_asked : Addr
  fd__law_tables_asked : FuncData
  F__law_tables_asked : FunD K "_law_tables_asked" "_law_tables_asked" (defArgs s__law_tables_asked) (defBody s__law_tables_asked) (defScope s__law_tables_asked) [] [] a__law_tables_asked fd__law_tables_asked
  g__law_tables_asked : mg "_law_tables_asked" = some (.ref a__law_tables_asked)
  a__law_looks_asked : Addr
  fd__law_looks_asked : FuncData
  F__law_looks_asked : FunD K "_law_looks_asked" "_law_looks_asked" (defArgs s__law_looks_asked) (defBody s__law_looks_asked) (defScope s__law_looks_asked) [] [] a__law_looks_asked fd__law_looks_asked
  g__law_looks_asked : mg "_law_looks_asked" = some (.ref a__law_looks_asked)
  a__law_over_asked : Addr
  fd__law_over_asked : FuncData
  F__law_over_asked : FunD K "_law_over_asked" "_law_over_asked" (defArgs s__law_over_asked) (defBody s__law_over_asked) (defScope s__law_over_asked) [] [] a__law_over_asked fd__law_over_asked
  g__law_over_asked : mg "_law_over_asked" = some (.ref a__law_over_asked)
  a__law_hand : Addr
  fd__law_hand : FuncData
  F__law_hand : FunD K "_law_hand" "_law_hand" (defArgs s__law_hand) (defBody s__law_hand) (defScope s__law_hand) [] [] a__law_hand fd__law_hand
  g__law_hand : mg "_law_hand" = some (.ref a__law_hand)
  a_law : Addr
  fd_law : FuncData
  F_law : FunD K "law" "law" (defArgs s_law) (defBody s_law) (defScope s_law) [] [] a_law fd_law
  g_law : mg "law" = some (.ref a_law)
  n_abs : mg "abs" = none
  n_bool : mg "bool" = none
  n_int : mg "int" = none
  n_isinstance : mg "isinstance" = none
  n_len : mg "len" = none
  n_list : mg "list" = none
  n_max : mg "max" = none
  n_min : mg "min" = none
  n_range : mg "range" = none
  n_sorted : mg "sorted" = none
  n_str : mg "str" = none
  n_sum : mg "sum" = none
  n_tuple : mg "tuple" = none
  cs : Cs
  gc_BadCall : mg "BadCall" = some (.ref cs.BadCall)
  gc_LikeError : mg "LikeError" = some (.ref cs.LikeError)
  fI_BadCall : Addr
  fdI_BadCall : FuncData
  FI_BadCall : FunD K "__init__" "BadCall.__init__" (defArgs m_BadCall) (defBody m_BadCall) (defScope m_BadCall) [] [] fI_BadCall fdI_BadCall
  xc_BadCall : XcOk K cs.BadCall fI_BadCall
  fld_BadCall_word : PySem.W.findIn K (.ref cs.BadCall) "word" = some none
  xm_BadCall_BadCall : PySem.W.exmOne K (.ref cs.BadCall) (.ref cs.BadCall) = some true
  xm_BadCall_LikeError : PySem.W.exmOne K (.ref cs.BadCall) (.ref cs.LikeError) = some true
section
variable {P : Program} {w : World} {K : PySem.W.Frag} {mg : Str → Option Value} {base : Heap}
theorem b_joined_lots (T : Tx K mg) : Binds K T.fd_joined_lots ["one", "other"] [] := T.F_joined_lots.bindsN fun _ _ _ _ _ _ us hl => match us, hl with | [_, _], _ => rfl
theorem b_done_by_lots (T : Tx K mg) : Binds K T.fd_done_by_lots ["lots", "things"] [] := T.F_done_by_lots.bindsN fun _ _ _ _ _ _ us hl => match us, hl with | [_, _], _ => rfl
theorem b_lots_size (T : Tx K mg) : Binds K T.fd_lots_size ["lots"] [] := T.F_lots_size.bindsN fun _ _ _ _ _ _ us hl => match us, hl with | [_], _ => rfl
theorem b_rising_number (T : Tx K mg) : Binds K T.fd_rising_number ["many", "most"] [] := T.F_rising_number.bindsN fun _ _ _ _ _ _ us hl => match us, hl with | [_, _], _ => rfl
theorem b_all_lots_over (T : Tx K mg) : Binds K T.fd_all_lots_over ["numbers", "ahead", "drops", "behind"] [] := T.F_all_lots_over.bindsN fun _ _ _ _ _ _ us hl => match us, hl with | [_, _, _, _], _ => rfl
theorem b__rows (T : Tx K mg) : Binds K T.fd__rows ["numbers", "most"] [] := T.F__rows.bindsN fun _ _ _ _ _ _ us hl => match us, hl with | [_, _], _ => rfl
theorem b_product_table (T : Tx K mg) : Binds K T.fd_product_table ["rows"] [] := T.F_product_table.bindsN fun _ _ _ _ _ _ us hl => match us, hl with | [_], _ => rfl
theorem b_lots_commute (T : Tx K mg) : Binds K T.fd_lots_commute ["one", "other"] [] := T.F_lots_commute.bindsN fun _ _ _ _ _ _ us hl => match us, hl with | [_, _], _ => rfl
theorem b_commuting_pairs (T : Tx K mg) : Binds K T.fd_commuting_pairs ["rows"] [] := T.F_commuting_pairs.bindsN fun _ _ _ _ _ _ us hl => match us, hl with | [_], _ => rfl
theorem b_is_idle_lots (T : Tx K mg) : Binds K T.fd_is_idle_lots ["lots"] [] := T.F_is_idle_lots.bindsN fun _ _ _ _ _ _ us hl => match us, hl with | [_], _ => rfl
theorem b_divides_left (T : Tx K mg) : Binds K T.fd_divides_left ["one", "goal", "rows"] [] := T.F_divides_left.bindsN fun _ _ _ _ _ _ us hl => match us, hl with | [_, _, _], _ => rfl
theorem b_divides_right (T : Tx K mg) : Binds K T.fd_divides_right ["one", "goal", "rows"] [] := T.F_divides_right.bindsN fun _ _ _ _ _ _ us hl => match us, hl with | [_, _, _], _ => rfl
theorem b_joined_all (T : Tx K mg) : Binds K T.fd_joined_all ["rows"] [] := T.F_joined_all.bindsN fun _ _ _ _ _ _ us hl => match us, hl with | [_], _ => rfl
theorem b_change_of (T : Tx K mg) : Binds K T.fd_change_of ["lots"] [] := T.F_change_of.bindsN fun _ _ _ _ _ _ us hl => match us, hl with | [_], _ => rfl
theorem b_unknown_taken (T : Tx K mg) : Binds K T.fd_unknown_taken ["lots"] [] := T.F_unknown_taken.bindsN fun _ _ _ _ _ _ us hl => match us, hl with | [_], _ => rfl
theorem b_power_sizes (T : Tx K mg) : Binds K T.fd_power_sizes ["lots", "times"] [] := T.F_power_sizes.bindsN fun _ _ _ _ _ _ us hl => match us, hl with | [_, _], _ => rfl
theorem b_kept_least (T : Tx K mg) : Binds K T.fd_kept_least ["lots", "things"] [] := T.F_kept_least.bindsN fun _ _ _ _ _ _ us hl => match us, hl with | [_, _], _ => rfl
theorem b_least_kept_number (T : Tx K mg) : Binds K T.fd_least_kept_number ["lots"] [] := T.F_least_kept_number.bindsN fun _ _ _ _ _ _ us hl => match us, hl with | [_], _ => rfl
theorem b_lots_line (T : Tx K mg) : Binds K T.fd_lots_line ["lots"] [] := T.F_lots_line.bindsN fun _ _ _ _ _ _ us hl => match us, hl with | [_], _ => rfl
theorem b__law_trough (T : Tx K mg) : Binds K T.fd__law_trough ["script"] [] := T.F__law_trough.bindsN fun _ _ _ _ _ _ us hl => match us, hl with | [_], _ => rfl
theorem b__law_ladle (T : Tx K mg) : Binds K T.fd__law_ladle ["trough", "many"] [] := T.F__law_ladle.bindsN fun _ _ _ _ _ _ us hl => match us, hl with | [_, _], _ => rfl
theorem b__law_habit (T : Tx K mg) : Binds K T.fd__law_habit ["trough", "place", "many"] [] := T.F__law_habit.bindsN fun _ _ _ _ _ _ us hl => match us, hl with | [_, _, _], _ => rfl
theorem b__law_same (T : Tx K mg) : Binds K T.fd__law_same ["told", "due"] [] := T.F__law_same.bindsN fun _ _ _ _ _ _ us hl => match us, hl with | [_, _], _ => rfl
theorem b__law_silent (T : Tx K mg) : Binds K T.fd__law_silent ["trough", "name", "most"] [] := T.F__law_silent.bindsN fun _ _ _ _ _ _ us hl => match us, hl with | [_, _, _], _ => rfl
theorem b__law_done (T : Tx K mg) : Binds K T.fd__law_done ["recipe", "things"] [] := T.F__law_done.bindsN fun _ _ _ _ _ _ us hl => match us, hl with | [_, _], _ => rfl
theorem b__law_joined (T : Tx K mg) : Binds K T.fd__law_joined ["one", "other"] [] := T.F__law_joined.bindsN fun _ _ _ _ _ _ us hl => match us, hl with | [_, _], _ => rfl
theorem b__law_lots (T : Tx K mg) : Binds K T.fd__law_lots ["recipe"] [] := T.F__law_lots.bindsN fun _ _ _ _ _ _ us hl => match us, hl with | [_], _ => rfl
theorem b__law_recipe (T : Tx K mg) : Binds K T.fd__law_recipe ["lots", "name"] [] := T.F__law_recipe.bindsN fun _ _ _ _ _ _ us hl => match us, hl with | [_, _], _ => rfl
theorem b__law_things (T : Tx K mg) : Binds K T.fd__law_things ["trough", "most"] [] := T.F__law_things.bindsN fun _ _ _ _ _ _ us hl => match us, hl with | [_, _], _ => rfl
theorem b__law_rising (T : Tx K mg) : Binds K T.fd__law_rising ["numbers", "many"] [] := T.F__law_rising.bindsN fun _ _ _ _ _ _ us hl => match us, hl with | [_, _], _ => rfl
theorem b__law_count (T : Tx K mg) : Binds K T.fd__law_count ["many", "most"] [] := T.F__law_count.bindsN fun _ _ _ _ _ _ us hl => match us, hl with | [_, _], _ => rfl
theorem b__law_all (T : Tx K mg) : Binds K T.fd__law_all ["numbers", "ahead", "drops", "behind"] [] := T.F__law_all.bindsN fun _ _ _ _ _ _ us hl => match us, hl with | [_, _, _, _], _ => rfl
theorem b__law_heard (T : Tx K mg) : Binds K T.fd__law_heard ["numbers", "ahead", "drops", "behind"] [] := T.F__law_heard.bindsN fun _ _ _ _ _ _ us hl => match us, hl with | [_, _, _, _], _ => rfl
theorem b__law_some (T : Tx K mg) : Binds K T.fd__law_some ["trough"] [] := T.F__law_some.bindsN fun _ _ _ _ _ _ us hl => match us, hl with | [_], _ => rfl
theorem b__law_tables_asked (T : Tx K mg) : Binds K T.fd__law_tables_asked ["trough", "rows"] [] := T.F__law_tables_asked.bindsN fun _ _ _ _ _ _ us hl => match us, hl with | [_, _], _ => rfl
theorem b__law_looks_asked (T : Tx K mg) : Binds K T.fd__law_looks_asked ["trough", "lots"] [] := T.F__law_looks_asked.bindsN fun _ _ _ _ _ _ us hl => match us, hl with | [_, _], _ => rfl
theorem b__law_over_asked (T : Tx K mg) : Binds K T.fd__law_over_asked ["trough"] [] := T.F__law_over_asked.bindsN fun _ _ _ _ _ _ us hl => match us, hl with | [_], _ => rfl
theorem b__law_hand (T : Tx K mg) : Binds K T.fd__law_hand [] [] := T.F__law_hand.bindsN fun _ _ _ _ _ _ us hl => match us, hl with | [], _ => rfl
theorem b_law (T : Tx K mg) : Binds K T.fd_law ["script"] [] := T.F_law.bindsN fun _ _ _ _ _ _ us hl => match us, hl with | [_], _ => rfl
theorem bI_BadCall (T : Tx K mg) : Binds K T.fdI_BadCall ["self", "word"] [] := T.FI_BadCall.bindsN fun _ _ _ _ _ _ us hl => match us, hl with | [_, _], _ => rfl
theorem okI_BadCall (T : Tx K mg) : FnOk P w K mg base CX0 1 T.fI_BadCall T.fdI_BadCall ["self", "word"] (spI T.cs.BadCall ["word"]) := ok_init1 T.FI_BadCall scI_BadCall ⟨.inl rfl, by decide, by decide⟩ ⟨.inl rfl, by decide, by decide⟩ T.xc_BadCall.oex T.fld_BadCall_word
theorem kb_all_lots_over_2_behind_drops (T : Tx K mg) : KBinds K T.fd_all_lots_over ["numbers", "ahead", "drops", "behind"] ["behind", "drops"] (kg 2 [1, 0]) (kg 2 [1, 0]) := kb T.F_all_lots_over 2 [1, 0] (by decide) fun _ _ _ _ _ _ us ws h1 h2 => match us, ws, h1, h2 with | [_, _], [_, _], _, _ => rfl
theorem kb_lots_commute_0_other_one (T : Tx K mg) : KBinds K T.fd_lots_commute ["one", "other"] ["other", "one"] (kg 0 [1, 0]) (kg 0 [1, 0]) := kb T.F_lots_commute 0 [1, 0] (by decide) fun _ _ _ _ _ _ us ws h1 h2 => match us, ws, h1, h2 with | [], [_, _], _, _ => rfl
theorem kb_divides_left_0_rows_goal_one (T : Tx K mg) : KBinds K T.fd_divides_left ["one", "goal", "rows"] ["rows", "goal", "one"] (kg 0 [2, 1, 0]) (kg 0 [2, 1, 0]) := kb T.F_divides_left 0 [2, 1, 0] (by decide) fun _ _ _ _ _ _ us ws h1 h2 => match us, ws, h1, h2 with | [], [_, _, _], _, _ => rfl
theorem kb_is_idle_lots_0_lots (T : Tx K mg) : KBinds K T.fd_is_idle_lots ["lots"] ["lots"] (kg 0 [0]) (kg 0 [0]) := kb T.F_is_idle_lots 0 [0] (by decide) fun _ _ _ _ _ _ us ws h1 h2 => match us, ws, h1, h2 with | [], [_], _, _ => rfl
theorem kb_power_sizes_0_times_lots (T : Tx K mg) : KBinds K T.fd_power_sizes ["lots", "times"] ["times", "lots"] (kg 0 [1, 0]) (kg 0 [1, 0]) := kb T.F_power_sizes 0 [1, 0] (by decide) fun _ _ _ _ _ _ us ws h1 h2 => match us, ws, h1, h2 with | [], [_, _], _, _ => rfl
theorem kb_unknown_taken_0_lots (T : Tx K mg) : KBinds K T.fd_unknown_taken ["lots"] ["lots"] (kg 0 [0]) (kg 0 [0]) := kb T.F_unknown_taken 0 [0] (by decide) fun _ _ _ _ _ _ us ws h1 h2 => match us, ws, h1, h2 with | [], [_], _, _ => rfl
theorem kb_change_of_0_lots (T : Tx K mg) : KBinds K T.fd_change_of ["lots"] ["lots"] (kg 0 [0]) (kg 0 [0]) := kb T.F_change_of 0 [0] (by decide) fun _ _ _ _ _ _ us ws h1 h2 => match us, ws, h1, h2 with | [], [_], _, _ => rfl
theorem kb_commuting_pairs_0_rows (T : Tx K mg) : KBinds K T.fd_commuting_pairs ["rows"] ["rows"] (kg 0 [0]) (kg 0 [0]) := kb T.F_commuting_pairs 0 [0] (by decide) fun _ _ _ _ _ _ us ws h1 h2 => match us, ws, h1, h2 with | [], [_], _, _ => rfl
theorem kb_joined_all_0_rows (T : Tx K mg) : KBinds K T.fd_joined_all ["rows"] ["rows"] (kg 0 [0]) (kg 0 [0]) := kb T.F_joined_all 0 [0] (by decide) fun _ _ _ _ _ _ us ws h1 h2 => match us, ws, h1, h2 with | [], [_], _, _ => rfl
theorem kb_lots_line_0_lots (T : Tx K mg) : KBinds K T.fd_lots_line ["lots"] ["lots"] (kg 0 [0]) (kg 0 [0]) := kb T.F_lots_line 0 [0] (by decide) fun _ _ _ _ _ _ us ws h1 h2 => match us, ws, h1, h2 with | [], [_], _, _ => rfl
theorem kb_divides_right_0_one_goal_rows (T : Tx K mg) : KBinds K T.fd_divides_right ["one", "goal", "rows"] ["one", "goal", "rows"] (kg 0 [0, 1, 2]) (kg 0 [0, 1, 2]) := kb T.F_divides_right 0 [0, 1, 2] (by decide) fun _ _ _ _ _ _ us ws h1 h2 => match us, ws, h1, h2 with | [], [_, _, _], _, _ => rfl
theorem kb_least_kept_number_0_lots (T : Tx K mg) : KBinds K T.fd_least_kept_number ["lots"] ["lots"] (kg 0 [0]) (kg 0 [0]) := kb T.F_least_kept_number 0 [0] (by decide) fun _ _ _ _ _ _ us ws h1 h2 => match us, ws, h1, h2 with | [], [_], _, _ => rfl
theorem kb_kept_least_0_things_lots (T : Tx K mg) : KBinds K T.fd_kept_least ["lots", "things"] ["things", "lots"] (kg 0 [1, 0]) (kg 0 [1, 0]) := kb T.F_kept_least 0 [1, 0] (by decide) fun _ _ _ _ _ _ us ws h1 h2 => match us, ws, h1, h2 with | [], [_, _], _, _ => rfl
end
end Lk26
set_option Elab.async false
set_option linter.all false
set_option maxRecDepth 100000
set_option maxHeartbeats 4000000
namespace Lk26
open PySem PySem.Spec PyProof.Rows L2 Dw
local macro_rules | `(tactic| walk_at "CALL") => `(tactic| first | fail)
def c_joined_lots : Ct := fun aa mm R => ∃ (a : Lt) (b : Lt), aa = [.d (ltD a), .d (ltD b)] ∧ mm = [] ∧ (szL a + szL b ≤ 3000) ∧ (R (.d (ltD (joinL a b))) [])
theorem ln_joined_lots : ∀ rs M R, c_joined_lots rs M R → rs.length = 2 ∧ M.length = 0 := by
  rintro aa mm R ⟨a, b, rfl, rfl, _⟩; exact ⟨rfl, rfl⟩
set_option maxHeartbeats 8000000 in
theorem ok_joined_lots {P : Program} {w : World} {K : PySem.W.Frag} {mg : Str → Option Value} {base : Heap} (T : Tx K mg) : FnOk P w K mg base CX0 1 T.a_joined_lots T.fd_joined_lots ["one", "other"] (spD K c_joined_lots) := by
  refine fnD (n0 := 0) T.F_joined_lots sc_joined_lots ln_joined_lots fun cdv A outer s H E hr => ⟨_, (qss_cons (qs_asg (qv 0) (qg_tupn (n := 3) rfl (qgs_cons (qg_name (i := 2) sc_joined_lots.nd rfl (by first | exact .inl rfl | exact .inr rfl)) (qgs_cons (qg_name (i := 3) sc_joined_lots.nd rfl (by first | exact .inl rfl | exact .inr rfl)) (qgs_cons (qg_name (i := 4) sc_joined_lots.nd rfl (by first | exact .inl rfl | exact .inr rfl)) qgs_nil))))) (qss_cons (qs_asg (qv 1) (qg_tupn (n := 3) rfl (qgs_cons (qg_name (i := 5) sc_joined_lots.nd rfl (by first | exact .inl rfl | exact .inr rfl)) (qgs_cons (qg_name (i := 6) sc_joined_lots.nd rfl (by first | exact .inl rfl | exact .inr rfl)) (qgs_cons (qg_name (i := 7) sc_joined_lots.nd rfl (by first | exact .inl rfl | exact .inr rfl)) qgs_nil))))) (qss_cons (qs_set (i := 8) sc_joined_lots.nd rfl (.inl rfl) (qe_tuple (by rfl) T.n_tuple (qa_cons (qe_sorted (u70 hr) (by rfl) T.n_sorted (qa_cons (qe_add (qv 4) (qv 5)) qa_nil)) qa_nil))) (qss_one (qs_ret (qe_tup (qa_cons (qe_tuple (by rfl) T.n_tuple (qa_cons (qe_sorted (u70 hr) (by rfl) T.n_sorted (qa_cons (qe_add (qv 2) (qe_sl (qv 8) qo_none (qo_some (qv 6)))) qa_nil)) qa_nil)) (qa_cons (qe_add (qv 3) (qv 6)) (qa_cons (qe_tuple (by rfl) T.n_tuple (qa_cons (qe_sorted (u70 hr) (by rfl) T.n_sorted (qa_cons (qe_add (qe_sl (qv 8) (qo_some (qv 6)) qo_none) (qv 7)) qa_nil)) qa_nil)) qa_nil))))))))), fun rs M R h => ?_⟩
  obtain ⟨a, b, rfl, rfl, hz, hR⟩ := h
  have ha := szL_parts a
  have hb := szL_parts b
  simp_all only [ltD]
  refine ⟨_, addM_t (by omega), _, isI_st _, _, fTupL, _, slT_hi, _, addM_t (by simp only [isI_len,List.length_append,List.length_take]; omega),_,isI_st _,_,fTupL,_,slT_lo,_,addM_t (by simp only [isI_len,List.length_append,List.length_drop]; omega), _, isI_st _, _, fTupL, ?_⟩
  exact hR
theorem i_joined_lots {a : Lt} {b : Lt} {R : Rv → Mem → Prop} (hz : szL a + szL b ≤ 3000) (k : R (.d (ltD (joinL a b))) []) : c_joined_lots [.d (ltD a), .d (ltD b)] [] R := ⟨a, b, rfl, rfl, hz, k⟩
end Lk26
set_option Elab.async false
set_option linter.all false
set_option maxRecDepth 100000
set_option maxHeartbeats 4000000
namespace Lk26
open PySem PySem.Spec PyProof.Rows L2 Dw
local macro_rules | `(tactic| walk_at "CALL") => `(tactic| first | fail)
def c_done_by_lots : Ct := fun aa mm R => ∃ (a : Lt) (ts : List Int), aa = [.d (ltD a), .d (.tup (ts.map .int))] ∧ mm = [] ∧ (szL a ≤ 3000 ∧ ts.length ≤ 3000) ∧ (R (.d (.tup ((doneL a ts).map .int))) [])
theorem ln_done_by_lots : ∀ rs M R, c_done_by_lots rs M R → rs.length = 2 ∧ M.length = 0 := by
  rintro aa mm R ⟨a, ts, rfl, rfl, _⟩; exact ⟨rfl, rfl⟩
set_option maxHeartbeats 8000000 in
theorem ok_done_by_lots {P : Program} {w : World} {K : PySem.W.Frag} {mg : Str → Option Value} {base : Heap} (T : Tx K mg) : FnOk P w K mg base CX0 1 T.a_done_by_lots T.fd_done_by_lots ["lots", "things"] (spD K c_done_by_lots) := by
  refine fnD (n0 := 0) T.F_done_by_lots sc_done_by_lots ln_done_by_lots fun cdv A outer s H E hr => ⟨_, (qss_one (qs_ret (qe_tuple (by rfl) T.n_tuple (qa_cons (qe_sorted (u70 hr) (by rfl) T.n_sorted (qa_cons (qe_add (qe_sl (qe_tuple (by rfl) T.n_tuple (qa_cons (qe_sorted (u70 hr) (by rfl) T.n_sorted (qa_cons (qe_add (qe_ix (qv 0) qe_int) (qv 1)) qa_nil)) qa_nil)) (qo_some (qe_ix (qv 0) qe_int)) qo_none) (qe_ix (qv 0) qe_int)) qa_nil)) qa_nil)))), fun rs M R h => ?_⟩
  obtain ⟨a, ts, rfl, rfl, hz, hR⟩ := h
  have ha := szL_parts a
  simp_all only [ltD]
  exact ⟨_, addM_t (by omega), _, isI_st _, _, fTupL, _, slT_lo, _, addM_t (by simp only [isI_len,List.length_append,List.length_drop]; omega), _, isI_st _, _, fTupL, hR⟩
theorem i_done_by_lots {a : Lt} {ts : List Int} {R : Rv → Mem → Prop} (hz : szL a ≤ 3000 ∧ ts.length ≤ 3000) (k : R (.d (.tup ((doneL a ts).map .int))) []) : c_done_by_lots [.d (ltD a), .d (.tup (ts.map .int))] [] R := ⟨a, ts, rfl, rfl, hz, k⟩
end Lk26
set_option Elab.async false
set_option linter.all false
set_option maxRecDepth 100000
set_option maxHeartbeats 4000000
namespace Lk26
open PySem PySem.Spec PyProof.Rows L2 Dw
local macro_rules | `(tactic| walk_at "CALL") => `(tactic| first | fail)
def c_lots_size : Ct := fun aa mm R => ∃ (a : Lt), aa = [.d (ltD a)] ∧ mm = [] ∧ (R (.d (.int (szL a))) [])
theorem ln_lots_size : ∀ rs M R, c_lots_size rs M R → rs.length = 1 ∧ M.length = 0 := by
  rintro aa mm R ⟨a, rfl, rfl, _⟩; exact ⟨rfl, rfl⟩
set_option maxHeartbeats 8000000 in
theorem ok_lots_size {P : Program} {w : World} {K : PySem.W.Frag} {mg : Str → Option Value} {base : Heap} (T : Tx K mg) : FnOk P w K mg base CX0 1 T.a_lots_size T.fd_lots_size ["lots"] (spD K c_lots_size) := by
  refine fnD (n0 := 0) T.F_lots_size sc_lots_size ln_lots_size fun cdv A outer s H E hr => ⟨_, (qss_one (qs_ret (qe_add (qe_add (qe_len (by rfl) T.n_len (qa_cons (qe_ix (qv 0) qe_int) qa_nil)) (qe_ix (qv 0) qe_int)) (qe_len (by rfl) T.n_len (qa_cons (qe_ix (qv 0) qe_int) qa_nil))))), fun rs M R h => ?_⟩
  obtain ⟨a, rfl, rfl, hR⟩ := h
  simp_all only [ltD]
  simpa [szL] using hR
theorem i_lots_size {a : Lt} {R : Rv → Mem → Prop}  (k : R (.d (.int (szL a))) []) : c_lots_size [.d (ltD a)] [] R := ⟨a, rfl, rfl, k⟩
end Lk26
set_option Elab.async false
set_option linter.all false
set_option maxRecDepth 100000
set_option maxHeartbeats 4000000
namespace Lk26
open PySem PySem.Spec PyProof.Rows L2 Dw
local macro_rules | `(tactic| walk_at "CALL") => `(tactic| first | fail)
def c_rising_number : Ct := fun aa mm R => ∃ (m : Nat) (q : Nat), aa = [.d (.int m), .d (.int q)] ∧ mm = [] ∧ (m ≤ 5 ∧ q ≤ 5) ∧ (R (.d (.int (rsF m q))) [])
theorem ln_rising_number : ∀ rs M R, c_rising_number rs M R → rs.length = 2 ∧ M.length = 0 := by
  rintro aa mm R ⟨m, q, rfl, rfl, _⟩; exact ⟨rfl, rfl⟩
set_option maxHeartbeats 8000000 in
theorem ok_rising_number {P : Program} {w : World} {K : PySem.W.Frag} {mg : Str → Option Value} {base : Heap} (T : Tx K mg) : FnOk P w K mg base CX0 1 T.a_rising_number T.fd_rising_number ["many", "most"] (spD K c_rising_number) := by
  refine fnD (n0 := 0) T.F_rising_number sc_rising_number ln_rising_number fun cdv A outer s H E hr => ⟨_, (qss_cons (qs_set (i := 2) sc_rising_number.nd rfl (.inl rfl) qe_int) (qss_cons (qs_for PassesOwn.never rfl (qi_range1 (by rfl) T.n_range (qa_cons (qv 1) qa_nil)) (qg_name (i := 3) sc_rising_number.nd rfl (by first | exact .inl rfl | exact .inr rfl)) (qss_one (qs_set (i := 2) sc_rising_number.nd rfl (.inl rfl) (qe_fdiv (qe_mul (qv 2) (qe_sub (qe_add (qv 0) (qv 1)) (qv 3))) (qe_add (qv 3) qe_int))))) (qss_one (qs_ret (qv 2))))), fun rs M R h => ?_⟩
  obtain ⟨m, q, rfl, rfl, hm, hR⟩ := h
  walk_at "QD"
  refine ⟨by omega, by omega, ?_⟩
  obtain ⟨Ie, hIe⟩ : ∃ I : Nat → Env' → Mem → Prop, I = fun i env M => (i ≤ q) ∧ M = [] ∧ ∃ (x3 : Option Rv), env = [some (.d (.int m)), some (.d (.int q)), some (.d (.int (rnN m q i))), x3] := ⟨_, rfl⟩
  refine for_0 Ie (by rw [hIe]; exact ⟨by omega, rfl, _, rfl⟩) (fun i d env M hd hi => ?_) (fun env M hi => ?_)
  · rw [hIe] at hi; obtain ⟨g0, rfl, x0, rfl⟩ := hi
    obtain ⟨hi, rfl⟩ := rngD_get hd
    have hr := rs_ok ⟨m, by omega⟩ ⟨q, by omega⟩ ⟨i, by omega⟩
    simp only at hr
    walk_at "QD"
    refine ⟨_, if_pos (by omega), ?_⟩
    have e : dFdiv (.int ((rnN m q i : Int) * ((m : Int) + q - i))) (.int ((i : Int) + 1)) = some (.int (rnN m q (i + 1) : Nat)) := by
      have hp : (rnN m q i : Int) * ((m : Int) + q - i) ≤ 100000 * 10 := Int.mul_le_mul (by omega) (by omega) (by omega) (by omega)
      have hp0 : 0 ≤ (rnN m q i : Int) * ((m : Int) + q - i) := Int.mul_nonneg (by omega) (by omega)
      rw [dFdiv_i, if_pos ⟨by omega, by omega⟩, show ((m : Int) + q - i) = ((m + q - i : Nat) : Int) by omega]
      simp only [rnN,Int.natCast_ediv,Int.natCast_mul,Int.natCast_add]
      rfl
    rw [e]
    walk_at "QD"
    rw [hIe]; exact ⟨by omega, by first | rfl | (simp; done), _, rfl⟩
  · rw [hIe] at hi; obtain ⟨g0, rfl, x0, rfl⟩ := hi
    walk_at "QD"
    rw [rngD_len] at *
    exact hR
theorem i_rising_number {m : Nat} {q : Nat} {R : Rv → Mem → Prop} (hm : m ≤ 5 ∧ q ≤ 5) (k : R (.d (.int (rsF m q))) []) : c_rising_number [.d (.int m), .d (.int q)] [] R := ⟨m, q, rfl, rfl, hm, k⟩
end Lk26
set_option Elab.async false
set_option linter.all false
set_option maxRecDepth 100000
set_option maxHeartbeats 4000000
namespace Lk26
open PySem PySem.Spec PyProof.Rows L2 Dw
local macro_rules | `(tactic| walk_at "CALL") => `(tactic| first | fail)
def c__rows : Ct := fun aa mm R => ∃ (ns : List Int) (q : Nat), aa = [.d (.tup (ns.map .int)), .d (.int q)] ∧ mm = [] ∧ (ns ∈ NS) ∧ (q ≤ 5) ∧ (R (.d (.lst ((rowsF ns q).map rwD))) [])
theorem ln__rows : ∀ rs M R, c__rows rs M R → rs.length = 2 ∧ M.length = 0 := by
  rintro aa mm R ⟨ns, q, rfl, rfl, _⟩; exact ⟨rfl, rfl⟩
set_option maxHeartbeats 8000000 in
theorem ok__rows {P : Program} {w : World} {K : PySem.W.Frag} {mg : Str → Option Value} {base : Heap} (T : Tx K mg) : FnOk P w K mg base CX0 1 T.a__rows T.fd__rows ["numbers", "most"] (spD K c__rows) := by
  refine fnD (n0 := 0) T.F__rows sc__rows ln__rows fun cdv A outer s H E hr => ⟨_, (qss_cons (qs_set (i := 2) sc__rows.nd rfl (.inl rfl) (qe_lst (qa_cons (qe_tup qa_nil) qa_nil))) (qss_cons (qs_set (i := 3) sc__rows.nd rfl (.inl rfl) (qe_lst (qa_cons (qe_tup qa_nil) qa_nil))) (qss_cons (qs_for PassesOwn.never rfl (qi_range1 (by rfl) T.n_range (qa_cons (qv 1) qa_nil)) (qg_name (i := 4) sc__rows.nd rfl (by first | exact .inl rfl | exact .inr rfl)) (qss_cons (qs_setLc2 (i := 3) (vs1 := [6]) rfl sc__rows.nd rfl rfl (sw_true rfl rfl rfl (by decide +kernel)) (qi_list (qv 3)) (blkOk_by (own := [("row", 5), ("one", 6)]) (N := ["numbers", "most", "told", "last", "_", "row", "one"]) (sc := defScope s__rows) (by decide +kernel)) (by decide) (by decide) (by decide) (fun _ _ _ _ _ => (qg_name (i := 5) sc__rows.nd rfl (by first | exact .inl rfl | exact .inr rfl))) (fun _ _ _ _ _ => qts_nil) (fun _ _ _ _ _ => (qi_tup (qv 0))) (fun _ _ _ _ _ => (qg_name (i := 6) sc__rows.nd rfl (by first | exact .inl rfl | exact .inr rfl))) (fun _ _ _ _ _ => (qts_one (QW.t (qw_or (qt_eq (u64 hr) (qe_len (by rfl) T.n_len (qa_cons (qv 5) qa_nil)) qe_int) (qw_or1 (qt_le (qe_ix (qv 5) (qe_neg qe_int)) (qv 6))))))) (fun _ _ _ _ _ => (qe_add (qv 5) (qe_tup (qa_cons (qv 6) qa_nil))))) (qss_one (qs_set (i := 2) sc__rows.nd rfl (.inl rfl) (qe_add (qv 2) (qv 3)))))) (qss_one (qs_ret (qv 2)))))), fun rs M R h => ?_⟩
  obtain ⟨ns, q, rfl, rfl, hn, hk, hR⟩ := h
  walk_at "QD"
  refine ⟨by omega, by omega, ?_⟩
  obtain ⟨Ie, hIe⟩ : ∃ I : Nat → Env' → Mem → Prop, I = fun i env M => ∃ (rs ls : List (List Int)), (i ≤ q) ∧ (rs = rowsF ns i) ∧ (ls = lvlF ns i) ∧ M = [] ∧ ∃ (x4 : Option Rv) (x5 : Option Rv) (x6 : Option Rv), env = [some (.d (.tup (ns.map .int))), some (.d (.int q)), some (.d (.lst (rs.map rwD))), some (.d (.lst (ls.map rwD))), x4, x5, x6] := ⟨_, rfl⟩
  refine for_0 Ie (by rw [hIe]; exact ⟨[[]], [[]], by omega, rfl, rfl, rfl, _, _, _, rfl⟩) (fun i d env M hd hi => ?_) (fun env M hi => ?_)
  · rw [hIe] at hi; obtain ⟨rs, ls, g0, g1, g2, rfl, x0, x1, x2, rfl⟩ := hi
    obtain ⟨hi, rfl⟩ := rngD_get hd
    have hiq : i < q := by simpa using hi
    walk_at "QD"
    have hz1 : ls.length ≤ 1000 := lvl_le hn (by omega) g2
    have hz2 : (lvlF ns (i + 1)).length ≤ 1000 := lvl_le hn (by omega) rfl
    have hz3 : rs.length ≤ 1000 := rows_le hn (by omega) g1
    have hnl := NS_len ns hn
    have hrow : ∀ r ∈ ls, r.length = i := fun r hr => lvl_row (g2 ▸ hr)
    refine lc2_map rwD (fun row => (nxtF ns row).map rwD) ls (fun row hrw G acc hz hG => ?_) ?_
    · have hrl := hrow row hrw
      have hz4 : acc.length ≤ 1000 := by
        rw [List.nil_append, ← List.map_flatMap, g2] at hz
        simp only [List.length_map] at hz
        have : ((lvlF ns i).flatMap (nxtF ns)).length ≤ 1000 := hz2
        omega
      rw [rwD]
      walk_at "QD"
      refine ⟨sz (by omega), ?_⟩
      refine lc_mapA D.int (fun x => decide (row = [] ∨ row.getLastD 0 ≤ x)) (fun x => rwD (row ++ [x])) ns (fun x hx G acc q1 q2 => ?_) ?_
      · rcases List.eq_nil_or_concat row with h | ⟨l, y, h⟩
        · subst h
          walk_at "QD"
          exact ⟨_, rfl, q1 (by simp)⟩
        · rw [List.concat_eq_append] at h
          subst h
          have ga : atI (l ++ [y]) (-1) = some y := atI_last
          have gl : ((l ++ [y]).length : Int) = l.length + 1 := by simp
          simp_all only [gl]
          rw [if_neg (by omega)]
          simp_all only [ga]
          rw [show (D.tup ((l ++ [y]).map D.int)) = .tup ((l ++ [y]).map D.int) from rfl, addM_t1 (f := D.int) (a := l ++ [y]) (x := x) (by omega)]
          refine lc_fin (fun h => ⟨_, rfl, q1 ?_⟩) (fun h => q2 ?_)
          · simpa using h
          · simpa using h
      · rw [show ((ns.filter fun x => decide (row = [] ∨ row.getLastD 0 ≤ x)).map fun x => rwD (row ++ [x])) = (nxtF ns row).map rwD by rw [nxtF, List.map_map]; rfl]
        exact hG
    · rw [List.nil_append, ← List.map_flatMap]
      have e1 : ls.flatMap (nxtF ns) = lvlF ns (i + 1) := by rw [g2]; rfl
      rw [e1]
      refine ⟨_, addM_l (by omega), ?_⟩
      rw [hIe]; exact ⟨rs ++ lvlF ns (i + 1), lvlF ns (i + 1), by omega, by rw [g1, rowsF, rowsF, List.range_succ (n := i + 1), List.flatMap_append]; simp, rfl, by first | rfl | (simp; done), _, _, _, rfl⟩
  · rw [hIe] at hi; obtain ⟨rs, ls, g0, g1, g2, rfl, x0, x1, x2, rfl⟩ := hi
    walk_at "QD"
    rw [rngD_len] at *
    subst g1
    exact hR
theorem i__rows {ns : List Int} {q : Nat} {R : Rv → Mem → Prop} (hn : ns ∈ NS) (hk : q ≤ 5) (k : R (.d (.lst ((rowsF ns q).map rwD))) []) : c__rows [.d (.tup (ns.map .int)), .d (.int q)] [] R := ⟨ns, q, rfl, rfl, hn, hk, k⟩
end Lk26
set_option Elab.async false
set_option linter.all false
set_option maxRecDepth 100000
set_option maxHeartbeats 4000000
namespace Lk26
open PySem PySem.Spec PyProof.Rows L2 Dw
local macro_rules | `(tactic| walk_at "CALL") => `(tactic| first | (refine i__rows (by walk_at "SIDE") (by walk_at "SIDE") ?_; walk_at "QS"; walk_at "GO") | (refine i_rising_number (by walk_at "SIDE") ?_; walk_at "QS"; walk_at "GO"))
def manyE (cs : Cs) : Ex := ⟨cs.BadCall, [(Str.ofString "word", .str (Str.ofString "many"))]⟩
def c_all_lots_over (cs : Cs) : CtX := fun hx rs M R => ∃ (ns : List Int) (a n b : Nat), rs = [.d (.tup (ns.map .int)), .d (.int a), .d (.int n), .d (.int b)] ∧ M = [] ∧ (ns ∈ NS ∧ a ≤ 5 ∧ b ≤ 5 ∧ n ≤ 600) ∧
  (firstsN ns.length a n * rsF ns.length b ≤ 600 → R (.d (.tup ((srtL (prgL ns a n b)).map ltD))) []) ∧ (600 < firstsN ns.length a n * rsF ns.length b → hx (manyE cs))
theorem ln_all_lots_over (cs : Cs) : ∀ hx rs M R, c_all_lots_over cs hx rs M R → rs.length = 4 ∧ M.length = 0 := by
  rintro hx rs M R ⟨ns, a, n, b, rfl, rfl, _⟩; exact ⟨rfl, rfl⟩
set_option maxHeartbeats 8000000 in
theorem ok_all_lots_over {P : Program} {w : World} {K : PySem.W.Frag} {mg : Str → Option Value} {base : Heap} (T : Tx K mg) : FnOk P w K mg base (L2.CX P w) 3 T.a_all_lots_over T.fd_all_lots_over ["numbers", "ahead", "drops", "behind"] (spX K (c_all_lots_over T.cs)) := by
  refine fnX T.F_all_lots_over sc_all_lots_over (ln_all_lots_over T.cs) fun cdv A outer s H E J hx hr lk po => ⟨_, (qss_cons (qs_set (i := 4) sc_all_lots_over.nd rfl (.inr rfl) (qe_len (by rfl) T.n_len (qa_cons (qv 0) qa_nil))) (qss_cons (qs_set (i := 5) sc_all_lots_over.nd rfl (.inl rfl) (qe_sumB rfl (by rfl) T.n_sum (qa_cons (qe_lc rfl sc_all_lots_over.nd (qi_range1 (by rfl) T.n_range (qa_cons (qe_add (qv 2) qe_int) qa_nil)) (blkOk_by (own := [("many", 7)]) (N := ["numbers", "ahead", "drops", "behind", "size", "firsts", "told", "many", "first", "last"]) (sc := defScope s_all_lots_over) (by decide +kernel)) (by decide) (fun _ _ _ _ _ => (qg_name (i := 7) sc_all_lots_over.nd rfl (by first | exact .inl rfl | exact .inr rfl))) (fun _ _ _ _ _ => qts_nil) (fun _ _ _ _ _ => (qe_call (ok_rising_number T) (hr.mono (by decide)) (by rfl) T.g_rising_number T.F_rising_number.kp (b_rising_number T) (qa_cons (qv 4) (qa_cons (qe_min2 rfl (by rfl) T.n_min (qa_cons (qv 1) (qa_cons (qv 7) qa_nil))) qa_nil))))) qa_nil))) (qss_cons (qs_if (qt_gt (qe_mul (qv 5) (qe_call (ok_rising_number T) (hr.mono (by decide)) (by rfl) T.g_rising_number T.F_rising_number.kp (b_rising_number T) (qa_cons (qv 4) (qa_cons (qv 3) qa_nil)))) qe_int) (qss_one (qs_raise rfl T.xc_BadCall.oex T.xc_BadCall.ini T.xc_BadCall.tyI (okI_BadCall T) (bI_BadCall T) lk (hr.mono (by decide)) (by rfl) T.gc_BadCall (qa_cons qe_str qa_nil))) qss_nil) (qss_cons (qs_set (i := 6) sc_all_lots_over.nd rfl (.inl rfl) (qe_lstO qa_nil)) (qss_cons (qs_for po rfl (qi_range1 (by rfl) T.n_range (qa_cons (qe_add (qv 2) qe_int) qa_nil)) (qg_name (i := 7) sc_all_lots_over.nd rfl (by first | exact .inl rfl | exact .inr rfl)) (qss_one (qs_for po rfl (qi_list (qe_call (ok__rows T) (hr.mono (by decide)) (by rfl) T.g__rows T.F__rows.kp (b__rows T) (qa_cons (qv 0) (qa_cons (qe_min2 rfl (by rfl) T.n_min (qa_cons (qv 1) (qa_cons (qv 7) qa_nil))) qa_nil)))) (qg_name (i := 8) sc_all_lots_over.nd rfl (by first | exact .inl rfl | exact .inr rfl)) (qss_one (qs_expr (qe_extendL (qv 6) (qel_lc rfl sc_all_lots_over.nd (qi_list (qe_call (ok__rows T) (hr.mono (by decide)) (by rfl) T.g__rows T.F__rows.kp (b__rows T) (qa_cons (qv 0) (qa_cons (qv 3) qa_nil)))) (blkOk_by (own := [("last", 9)]) (N := ["numbers", "ahead", "drops", "behind", "size", "firsts", "told", "many", "first", "last"]) (sc := defScope s_all_lots_over) (by decide +kernel)) (by decide) (fun _ _ _ _ _ => (qg_name (i := 9) sc_all_lots_over.nd rfl (by first | exact .inl rfl | exact .inr rfl))) (fun _ _ _ _ _ => qts_nil) (fun _ _ _ _ _ => (qe_tup (qa_cons (qv 8) (qa_cons (qv 7) (qa_cons (qv 9) qa_nil)))))))))))) (qss_one (qs_ret (qe_tuple (by rfl) T.n_tuple (qa_cons (qe_sorted (u70 hr) (by rfl) T.n_sorted (qa_cons (qv 6) qa_nil)) qa_nil))))))))), fun rs R h => ?_⟩
  obtain ⟨ns, a, n, b, rfl, -, ⟨hn, ha, hb, hd⟩, h1, h2⟩ := h
  have hnl := NS_len ns hn
  walk_at "GO"
  refine ⟨by omega, by omega, sz (by rw [rngD_len]; omega), ?_⟩
  rw [rng_eq, show ((n : Int) + 1).toNat = n + 1 by omega]
  refine lc_map' (fun i : Nat => D.int i) (fun m => .int (rsF ns.length (min a m) : Nat)) (List.range (n + 1)) (fun m hm G hG => ?_) ?_
  · walk_at "QS"
    rw [show (min (a : Int) (m : Int)) = ((min a m : Nat) : Int) by omega]
    refine i_rising_number (m := ns.length) (q := min a m) (by omega) ?_
    walk_at "QS"
    exact hG
  walk_at "QS"
  refine ⟨_, sumN _, ?_⟩
  walk_at "QS"
  have hrb := rs_ok ⟨ns.length, by omega⟩ ⟨b, by omega⟩ ⟨b, by omega⟩
  simp only at hrb
  have hrb' : rsF ns.length b ≤ 100000 := hrb
  refine seq_ ?_
  walk_at "QS"
  refine i_rising_number (m := ns.length) (q := b) (by omega) ?_
  walk_at "QS"
  refine ⟨_, if_pos (.inr ⟨by omega, by omega⟩), ?_⟩
  rw [show ((List.range (n + 1)).map fun m => rsF ns.length (min a m)).sum = firstsN ns.length a n from rfl, ← Int.natCast_mul]
  by_cases hc : 600 < firstsN ns.length a n * rsF ns.length b
  · walk_at "QS"
    rw [if_pos (by omega)]
    exact h2 hc
  · have hl := prg_len (d := n) hn ha hb
    replace hR := h1 (by omega)
    walk_at "QS"
    rw [if_neg (by omega)]
    refine seq_ ?_
    walk_at "QS"
    refine seq_ ?_
    walk_at "QS"
    refine ⟨by omega, by omega, ?_⟩
    rw [rng_eq, show ((n : Int) + 1).toNat = n + 1 by omega]
    obtain ⟨Ie, hIe⟩ : ∃ I : Nat → Env' → Mem → Prop, I = fun i env M => ∃ (ls : List Lt), (ls = ((List.range (n + 1)).take i).flatMap (prgM ns a b)) ∧ M = [.lst (ls.map ltD)] ∧ ∃ (x4 : Option Rv) (x5 : Option Rv) (x7 : Option Rv) (x8 : Option Rv) (x9 : Option Rv), env = [some (.d (.tup (ns.map .int))), some (.d (.int a)), some (.d (.int n)), some (.d (.int b)), x4, x5, some (.o 0), x7, x8, x9] := ⟨_, rfl⟩
    refine for_0 Ie (by rw [hIe]; exact ⟨[], rfl, rfl, _, _, _, _, _, rfl⟩) (fun i d env M hd hi => ?_) (fun env M hi => ?_)
    · rw [hIe] at hi; obtain ⟨ls, g1, rfl, x0, x1, x2, x3, x4, rfl⟩ := hi
      obtain ⟨m, hm, rfl⟩ := map_get hd
      have hi := get_lt hm
      rw [List.length_range] at hi
      rw [List.getElem?_range hi] at hm
      cases hm
      obtain ⟨m, hmi⟩ : ∃ m, m = i := ⟨i, rfl⟩
      rw [← hmi] at g1 hi
      have hls : ls.length ≤ 600 := by have := fm_take (prgM ns a b) (List.range (n + 1)) m; rw [← g1] at this; have h3 : (prgL ns a n b).length = ((List.range (n + 1)).flatMap (prgM ns a b)).length := rfl; omega
      walk_at "QS"
      rw [← hmi, show (min (a : Int) (m : Int)) = ((min a m : Nat) : Int) by omega]
      refine i__rows (q := min a m) hn (by omega) ?_
      walk_at "QS"
      have hr1 := rows_le (k := min a m) hn (by omega) rfl
      have hr2 := rows_le (k := b) hn (by omega) rfl
      obtain ⟨If, hIf⟩ : ∃ I : Nat → Env' → Mem → Prop, I = fun i env M => ∃ (ms : List Lt), (ms = ls ++ ((rowsF ns (min a m)).take i).flatMap (fun f => (rowsF ns b).map fun l => ((f, m, l) : Lt))) ∧ M = [.lst (ms.map ltD)] ∧ ∃ (x4 : Option Rv) (x5 : Option Rv) (x8 : Option Rv) (x9 : Option Rv), env = [some (.d (.tup (ns.map .int))), some (.d (.int a)), some (.d (.int n)), some (.d (.int b)), x4, x5, some (.o 0), some (.d (.int m)), x8, x9] := ⟨_, rfl⟩
      refine for_0 If (by rw [hIf]; exact ⟨ls, by simp, rfl, _, _, _, _, rfl⟩) (fun i d env M hd hi => ?_) (fun env M hi => ?_)
      · rw [hIf] at hi; obtain ⟨ms, g2, rfl, x0, x1, x2, x3, rfl⟩ := hi
        obtain ⟨r, hr, rfl⟩ := map_get hd
        have hri := get_lt hr
        walk_at "QS"
        refine i__rows (q := b) hn hb ?_
        walk_at "QS"
        have hms : ms.length ≤ 1000600 := by
          have h5 := flatMap_len (f := fun f => (rowsF ns b).map fun l => ((f, m, l) : Lt)) (l := (rowsF ns (min a m)).take i) (k := 1000) fun x _ => by rw [List.length_map]; exact hr2
          rw [List.length_take] at h5
          have hm1 : min i (rowsF ns (min a m)).length ≤ 1000 := by omega
          have hm2 := Nat.mul_le_mul_right 1000 hm1
          rw [g2, List.length_append]
          omega
        refine ⟨sz (by omega), lc_map' rwD (fun l => ltD (r, m, l)) (rowsF ns b) (fun l hl2 G hG => ?_) ?_⟩
        · walk_at "QS"
          exact hG
        · walk_at "QS"
          refine ⟨sz (by omega), ?_⟩
          rw [show ms.map ltD ++ (rowsF ns b).map (fun l => ltD (r, m, l)) = (ms ++ (rowsF ns b).map fun l => ((r, m, l) : Lt)).map ltD by rw [List.map_append, List.map_map]; rfl]
          rw [hIf]; exact ⟨ms ++ (rowsF ns b).map (fun l => ((r, m, l) : Lt)), by rw [g2, take_get hr, List.flatMap_append]; simp, by first | rfl | (simp; done), _, _, _, _, rfl⟩
      · rw [hIf] at hi; obtain ⟨ms, g2, rfl, x0, x1, x2, x3, rfl⟩ := hi
        rw [List.length_map, List.take_length] at g2
        walk_at "QS"
        subst hmi
        rw [hIe]; exact ⟨ms, by rw [g2, g1, take_get (List.getElem?_range hi), List.flatMap_append]; simp [prgM], by first | rfl | (simp; done), _, _, _, _, _, rfl⟩
    · rw [hIe] at hi; obtain ⟨ls, g1, rfl, x0, x1, x2, x3, x4, rfl⟩ := hi
      rw [List.length_map, List.length_range, List.take_of_length_le (by simp)] at g1
      walk_at "QS"
      refine ⟨_, srtL_s ls, ?_⟩
      walk_at "QS"
      rw [g1]
      exact hR
end Lk26
set_option Elab.async false
set_option linter.all false
set_option maxRecDepth 100000
set_option maxHeartbeats 4000000
namespace Lk26
open PySem PySem.Spec PyProof.Rows L2 Dw
local macro_rules | `(tactic| walk_at "CALL") => `(tactic| first | (refine i_joined_lots (by walk_at "SIDE") ?_; walk_at "QS"; walk_at "GO"))
def c_product_table : Ct := fun aa mm R => ∃ (ls : List Lt), aa = [.d (lsD ls)] ∧ mm = [] ∧ (rowsOk 100 ls) ∧ (R (.d (tabF ls)) [])
theorem ln_product_table : ∀ rs M R, c_product_table rs M R → rs.length = 1 ∧ M.length = 0 := by
  rintro aa mm R ⟨ls, rfl, rfl, _⟩; exact ⟨rfl, rfl⟩
set_option maxHeartbeats 8000000 in
theorem ok_product_table {P : Program} {w : World} {K : PySem.W.Frag} {mg : Str → Option Value} {base : Heap} (T : Tx K mg) : FnOk P w K mg base CX0 2 T.a_product_table T.fd_product_table ["rows"] (spD K c_product_table) := by
  refine fnD (n0 := 0) T.F_product_table sc_product_table ln_product_table fun cdv A outer s H E hr => ⟨_, (qss_one (qs_ret (qe_tuple (by rfl) T.n_tuple (qa_cons (qe_lc rfl sc_product_table.nd (qi_tup (qv 0)) (blkOk_by (own := [("one", 1)]) (N := ["rows", "one", "other"]) (sc := defScope s_product_table) (by decide +kernel)) (by decide) (fun _ _ _ _ _ => (qg_name (i := 1) sc_product_table.nd rfl (by first | exact .inl rfl | exact .inr rfl))) (fun _ _ _ _ _ => qts_nil) (fun _ _ _ _ _ => (qe_tuple (by rfl) T.n_tuple (qa_cons (qe_lc rfl sc_product_table.nd (qi_tup (qv 0)) (blkOk_by (own := [("other", 2)]) (N := ["rows", "one", "other"]) (sc := ({ kind := PySem.ScopeKind.function, names := [ (PySem.Str.ofString ".0", PySem.NameKind.local), (PySem.Str.ofString "one", PySem.NameKind.cell), (PySem.Str.ofString "tuple", PySem.NameKind.globalImplicit), (PySem.Str.ofString "rows", PySem.NameKind.cell)], isGenerator := false, isCoroutine := false, more := [] : PySem.Scope })) (by decide +kernel)) (by decide) (fun _ _ _ _ _ => (qg_name (i := 2) sc_product_table.nd rfl (by first | exact .inl rfl | exact .inr rfl))) (fun _ _ _ _ _ => qts_nil) (fun _ _ _ _ _ => (qe_call (ok_joined_lots T) (hr.mono (by decide)) (by rfl) T.g_joined_lots T.F_joined_lots.kp (b_joined_lots T) (qa_cons (qv 1) (qa_cons (qv 2) qa_nil))))) qa_nil)))) qa_nil)))), fun rs M R h => ?_⟩
  obtain ⟨ls, rfl, rfl, h, hR⟩ := h
  obtain ⟨h1, h2⟩ := h
  simp_all only [lsD]
  refine ⟨sz (by omega), lc_map' ltD (fun a => .tup (ls.map fun b => ltD (joinL a b))) ls (fun a ha G hG => ?_) hR⟩
  have ha' := h2 a ha
  walk_at "QD"
  refine ⟨sz (by omega), lc_map' ltD (fun b => ltD (joinL a b)) ls (fun b hb G hG => ?_) ?_⟩
  · have hb' := h2 b hb
    walk_at "QD"
    refine i_joined_lots (by omega) ?_
    walk_at "QD"
    exact hG
  · walk_at "QD"
    exact hG
theorem i_product_table {ls : List Lt} {R : Rv → Mem → Prop} (h : rowsOk 100 ls) (k : R (.d (tabF ls)) []) : c_product_table [.d (lsD ls)] [] R := ⟨ls, rfl, rfl, h, k⟩
end Lk26
set_option Elab.async false
set_option linter.all false
set_option maxRecDepth 100000
set_option maxHeartbeats 4000000
namespace Lk26
open PySem PySem.Spec PyProof.Rows L2 Dw
local macro_rules | `(tactic| walk_at "CALL") => `(tactic| first | (refine i_joined_lots (by walk_at "SIDE") ?_; walk_at "QS"; walk_at "GO"))
def c_lots_commute : Ct := fun aa mm R => ∃ (a : Lt) (b : Lt), aa = [.d (ltD a), .d (ltD b)] ∧ mm = [] ∧ (szL a + szL b ≤ 3000) ∧ (R (.d (.bl ((ltD (joinL a b)).eqb (ltD (joinL b a))))) [])
theorem ln_lots_commute : ∀ rs M R, c_lots_commute rs M R → rs.length = 2 ∧ M.length = 0 := by
  rintro aa mm R ⟨a, b, rfl, rfl, _⟩; exact ⟨rfl, rfl⟩
set_option maxHeartbeats 8000000 in
theorem ok_lots_commute {P : Program} {w : World} {K : PySem.W.Frag} {mg : Str → Option Value} {base : Heap} (T : Tx K mg) : FnOk P w K mg base CX0 2 T.a_lots_commute T.fd_lots_commute ["one", "other"] (spD K c_lots_commute) := by
  refine fnD (n0 := 0) T.F_lots_commute sc_lots_commute ln_lots_commute fun cdv A outer s H E hr => ⟨_, (qss_one (qs_ret (qe_eq (u64 hr) (qe_call (ok_joined_lots T) (hr.mono (by decide)) (by rfl) T.g_joined_lots T.F_joined_lots.kp (b_joined_lots T) (qa_cons (qv 0) (qa_cons (qv 1) qa_nil))) (qe_call (ok_joined_lots T) (hr.mono (by decide)) (by rfl) T.g_joined_lots T.F_joined_lots.kp (b_joined_lots T) (qa_cons (qv 1) (qa_cons (qv 0) qa_nil)))))), fun rs M R h => ?_⟩
  obtain ⟨a, b, rfl, rfl, hz, hR⟩ := h
  walk_at "QD"
  refine i_joined_lots (by omega) ?_
  walk_at "QD"
  refine i_joined_lots (by omega) ?_
  simp_all only [ltD_eq]
  exact hR
theorem i_lots_commute {a : Lt} {b : Lt} {R : Rv → Mem → Prop} (hz : szL a + szL b ≤ 3000) (k : R (.d (.bl ((ltD (joinL a b)).eqb (ltD (joinL b a))))) []) : c_lots_commute [.d (ltD a), .d (ltD b)] [] R := ⟨a, b, rfl, rfl, hz, k⟩
end Lk26
set_option Elab.async false
set_option linter.all false
set_option maxRecDepth 100000
set_option maxHeartbeats 4000000
namespace Lk26
open PySem PySem.Spec PyProof.Rows L2 Dw
local macro_rules | `(tactic| walk_at "CALL") => `(tactic| first | (refine i_lots_commute (by walk_at "SIDE") ?_; walk_at "QS"; walk_at "GO"))
def c_commuting_pairs : Ct := fun aa mm R => ∃ (ls : List Lt), aa = [.d (lsD ls)] ∧ mm = [] ∧ (rowsOk 100 ls) ∧ (R (.d (.tup ((List.range ls.length).flatMap (comF ls)))) [])
theorem ln_commuting_pairs : ∀ rs M R, c_commuting_pairs rs M R → rs.length = 1 ∧ M.length = 0 := by
  rintro aa mm R ⟨ls, rfl, rfl, _⟩; exact ⟨rfl, rfl⟩
set_option maxHeartbeats 8000000 in
theorem ok_commuting_pairs {P : Program} {w : World} {K : PySem.W.Frag} {mg : Str → Option Value} {base : Heap} (T : Tx K mg) : FnOk P w K mg base CX0 3 T.a_commuting_pairs T.fd_commuting_pairs ["rows"] (spD K c_commuting_pairs) := by
  refine fnD (n0 := 0) T.F_commuting_pairs sc_commuting_pairs ln_commuting_pairs fun cdv A outer s H E hr => ⟨_, (qss_cons (qs_set (i := 1) sc_commuting_pairs.nd rfl (.inl rfl) (qe_lstO qa_nil)) (qss_cons (qs_for PassesOwn.never rfl (qi_range1 (by rfl) T.n_range (qa_cons (qe_len (by rfl) T.n_len (qa_cons (qv 0) qa_nil)) qa_nil)) (qg_name (i := 2) sc_commuting_pairs.nd rfl (by first | exact .inl rfl | exact .inr rfl)) (qss_one (qs_expr (qe_extendL (qv 1) (qel_lc rfl sc_commuting_pairs.nd (qi_range2 (by rfl) T.n_range (qa_cons (qe_add (qv 2) qe_int) (qa_cons (qe_len (by rfl) T.n_len (qa_cons (qv 0) qa_nil)) qa_nil))) (blkOk_by (own := [("other", 3)]) (N := ["rows", "told", "one", "other"]) (sc := defScope s_commuting_pairs) (by decide +kernel)) (by decide) (fun _ _ _ _ _ => (qg_name (i := 3) sc_commuting_pairs.nd rfl (by first | exact .inl rfl | exact .inr rfl))) (fun _ _ _ _ _ => (qts_one (qt_val (qe_call (ok_lots_commute T) (hr.mono (by decide)) (by rfl) T.g_lots_commute T.F_lots_commute.kp (b_lots_commute T) (qa_cons (qe_ix (qv 0) (qv 2)) (qa_cons (qe_ix (qv 0) (qv 3)) qa_nil)))))) (fun _ _ _ _ _ => (qe_tup (qa_cons (qv 2) (qa_cons (qv 3) qa_nil))))))))) (qss_one (qs_ret (qe_tuple (by rfl) T.n_tuple (qa_cons (qv 1) qa_nil)))))), fun rs M R h => ?_⟩
  obtain ⟨ls, rfl, rfl, h, hR⟩ := h
  obtain ⟨h1, h2⟩ := h
  simp_all only [lsD]
  refine ⟨by omega, by omega, ?_⟩
  obtain ⟨Ie, hIe⟩ : ∃ I : Nat → Env' → Mem → Prop, I = fun i env M => M = [.lst (((List.range ls.length).take i).flatMap (comF ls))] ∧ ∃ (x2 : Option Rv) (x3 : Option Rv), env = [some (.d (.tup (ls.map ltD))), some (.o 0), x2, x3] := ⟨_, rfl⟩
  refine for_0 Ie (by rw [hIe]; exact ⟨rfl, _, _, rfl⟩) (fun i d env M hd hi => ?_) (fun env M hi => ?_)
  · rw [hIe] at hi; obtain ⟨rfl, x0, x1, rfl⟩ := hi
    obtain ⟨hi, rfl⟩ := rngD_get hd
    rw [show (ls.length : Int).toNat = ls.length from rfl] at hi
    have get : ∀ k : Nat, k < ls.length → atI ls (k : Int) = some (ls.getD k l0) := fun k hk => atI_some (by rw [List.getD_eq_getElem?_getD, List.getElem?_eq_getElem hk]; rfl)
    have gz : ∀ k : Nat, k < ls.length → szL (ls.getD k l0) ≤ 100 := fun k hk => h2 _ (by rw [List.getD_eq_getElem?_getD, List.getElem?_eq_getElem hk]; exact List.getElem_mem _)
    walk_at "QD"
    have hlen := flatMap_len (f := comF ls) (l := (List.range ls.length).take i) (k := 100) fun x _ => Nat.le_trans (comF_len ls x) h1
    rw [List.length_take, List.length_range] at hlen
    have hc := comF_len ls i
    refine ⟨by omega, by omega, by omega, by omega, sz (by rw [rngD_len]; omega), ?_⟩
    rw [rngA_eq, show ((ls.length : Int) - ((i : Int) + 1)).toNat = ls.length - 1 - i by omega]
    refine lc_map (fun j : Nat => D.int ((i : Int) + 1 + j)) (fun j => eqL (joinL (ls.getD i l0) (ls.getD (i + 1 + j) l0)) (joinL (ls.getD (i + 1 + j) l0) (ls.getD i l0))) (fun j : Nat => D.tup [.int i, .int ((i + 1 + j : Nat) : Int)]) (List.range (ls.length - 1 - i)) (fun j hj G acc q1 q2 => ?_) ?_
    · have hj' := List.mem_range.mp hj
      rw [show ((i : Int) + 1 + j) = ((i + 1 + j : Nat) : Int) by omega]
      simp_all only [get i hi, get (i + 1 + j) (by omega)]
      have z1 := gz i hi
      have z2 := gz (i + 1 + j) (by omega)
      refine i_lots_commute (by omega) ?_
      walk_at "QD"
      exact lc_fin' q1 q2
    · walk_at "QD"
      have ec : (((List.range (ls.length - 1 - i)).filter fun j => eqL (joinL (ls.getD i l0) (ls.getD (i + 1 + j) l0)) (joinL (ls.getD (i + 1 + j) l0) (ls.getD i l0))).map fun j : Nat => D.tup [.int i, .int ((i + 1 + j : Nat) : Int)]) = comF ls i := rfl
      rw [ec]
      have hm : min i ls.length ≤ 100 := by omega
      have hm2 := Nat.mul_le_mul_right 100 hm
      have hcf : (comF ls i).length = ((List.range (ls.length - 1 - i)).filter fun j => eqL (joinL (ls.getD i l0) (ls.getD (i + 1 + j) l0)) (joinL (ls.getD (i + 1 + j) l0) (ls.getD i l0))).length := List.length_map _
      refine ⟨sz (by omega), ?_⟩
      rw [show ((List.range ls.length).take i).flatMap (comF ls) ++ comF ls i = ((List.range ls.length).take (i + 1)).flatMap (comF ls) by rw [take_get (List.getElem?_range hi), List.flatMap_append]; simp]
      rw [hIe]; exact ⟨by first | rfl | (simp; done), _, _, rfl⟩
  · rw [hIe] at hi; obtain ⟨rfl, x0, x1, rfl⟩ := hi
    walk_at "QD"
    rw [rngD_len, show (ls.length : Int).toNat = ls.length from rfl, List.take_of_length_le (by simp)]
    exact hR
theorem i_commuting_pairs {ls : List Lt} {R : Rv → Mem → Prop} (h : rowsOk 100 ls) (k : R (.d (.tup ((List.range ls.length).flatMap (comF ls)))) []) : c_commuting_pairs [.d (lsD ls)] [] R := ⟨ls, rfl, rfl, h, k⟩
end Lk26
set_option Elab.async false
set_option linter.all false
set_option maxRecDepth 100000
set_option maxHeartbeats 4000000
namespace Lk26
open PySem PySem.Spec PyProof.Rows L2 Dw
local macro_rules | `(tactic| walk_at "CALL") => `(tactic| first | (refine i_joined_lots (by walk_at "SIDE") ?_; walk_at "QS"; walk_at "GO"))
def c_is_idle_lots : Ct := fun aa mm R => ∃ (a : Lt), aa = [.d (ltD a)] ∧ mm = [] ∧ (szL a ≤ 1000) ∧ (R (.d (.bl ((ltD (joinL a a)).eqb (ltD a)))) [])
theorem ln_is_idle_lots : ∀ rs M R, c_is_idle_lots rs M R → rs.length = 1 ∧ M.length = 0 := by
  rintro aa mm R ⟨a, rfl, rfl, _⟩; exact ⟨rfl, rfl⟩
set_option maxHeartbeats 8000000 in
theorem ok_is_idle_lots {P : Program} {w : World} {K : PySem.W.Frag} {mg : Str → Option Value} {base : Heap} (T : Tx K mg) : FnOk P w K mg base CX0 2 T.a_is_idle_lots T.fd_is_idle_lots ["lots"] (spD K c_is_idle_lots) := by
  refine fnD (n0 := 0) T.F_is_idle_lots sc_is_idle_lots ln_is_idle_lots fun cdv A outer s H E hr => ⟨_, (qss_one (qs_ret (qe_eq (u64 hr) (qe_call (ok_joined_lots T) (hr.mono (by decide)) (by rfl) T.g_joined_lots T.F_joined_lots.kp (b_joined_lots T) (qa_cons (qv 0) (qa_cons (qv 0) qa_nil))) (qv 0)))), fun rs M R h => ?_⟩
  obtain ⟨a, rfl, rfl, hz, hR⟩ := h
  walk_at "QD"
  refine i_joined_lots (by omega) ?_
  simp_all only [ltD_eq]
  exact hR
theorem i_is_idle_lots {a : Lt} {R : Rv → Mem → Prop} (hz : szL a ≤ 1000) (k : R (.d (.bl ((ltD (joinL a a)).eqb (ltD a)))) []) : c_is_idle_lots [.d (ltD a)] [] R := ⟨a, rfl, rfl, hz, k⟩
end Lk26
set_option Elab.async false
set_option linter.all false
set_option maxRecDepth 100000
set_option maxHeartbeats 4000000
namespace Lk26
open PySem PySem.Spec PyProof.Rows L2 Dw
local macro_rules | `(tactic| walk_at "CALL") => `(tactic| first | (refine i_joined_lots (by walk_at "SIDE") ?_; walk_at "QS"; walk_at "GO"))
def c_divides_left : Ct := fun aa mm R => ∃ (a : Lt) (g : Lt) (ls : List Lt), aa = [.d (ltD a), .d (ltD g), .d (lsD ls)] ∧ mm = [] ∧ (rowsOk 100 ls) ∧ (szL a ≤ 100) ∧ (R (.d (oLt (divL a g ls))) [])
theorem ln_divides_left : ∀ rs M R, c_divides_left rs M R → rs.length = 3 ∧ M.length = 0 := by
  rintro aa mm R ⟨a, g, ls, rfl, rfl, _⟩; exact ⟨rfl, rfl⟩
set_option maxHeartbeats 8000000 in
theorem ok_divides_left {P : Program} {w : World} {K : PySem.W.Frag} {mg : Str → Option Value} {base : Heap} (T : Tx K mg) : FnOk P w K mg base CX0 2 T.a_divides_left T.fd_divides_left ["one", "goal", "rows"] (spD K c_divides_left) := by
  refine fnD (n0 := 0) T.F_divides_left sc_divides_left ln_divides_left fun cdv A outer s H E hr => ⟨_, (qss_cons (qs_for PassesOwn.never rfl (qi_tup (qv 2)) (qg_name (i := 3) sc_divides_left.nd rfl (by first | exact .inl rfl | exact .inr rfl)) (qss_one (qs_if (qt_eq (u64 hr) (qe_call (ok_joined_lots T) (hr.mono (by decide)) (by rfl) T.g_joined_lots T.F_joined_lots.kp (b_joined_lots T) (qa_cons (qv 0) (qa_cons (qv 3) qa_nil))) (qv 1)) (qss_one (qs_ret (qv 3))) qss_nil))) (qss_one (qs_ret qe_non))), fun rs M R h => ?_⟩
  obtain ⟨a, g, ls, rfl, rfl, h, hz, hR⟩ := h
  obtain ⟨h1, h2⟩ := h
  simp_all only [lsD]
  obtain ⟨Ie, hIe⟩ : ∃ I : Nat → Env' → Mem → Prop, I = fun i env M => (∀ b ∈ ls.take i, eqL (joinL a b) g = false) ∧ M = [] ∧ ∃ (x3 : Option Rv), env = [some (.d (ltD a)), some (.d (ltD g)), some (.d (.tup (ls.map ltD))), x3] := ⟨_, rfl⟩
  refine for_0 Ie (by rw [hIe]; exact ⟨by simp, rfl, _, rfl⟩) (fun i d env M hd hi => ?_) (fun env M hi => ?_)
  · rw [hIe] at hi; obtain ⟨g1, rfl, x0, rfl⟩ := hi
    obtain ⟨b, hb, rfl⟩ := map_get hd
    have hb' := h2 b (List.mem_of_getElem? hb)
    walk_at "QD"
    refine i_joined_lots (by omega) ?_
    simp_all only [ltD_eq]
    cases hq : eqL (joinL a b) g with
    | true =>
      rw [show (ltD (joinL a b)).eqb (ltD g) = true from hq]
      walk_at "QD"
      have := find_at (l := ls) (p := fun b => eqL (joinL a b) g) hb hq fun c hc => g1 c hc
      rw [divL, this] at hR
      exact hR
    | false =>
      rw [show (ltD (joinL a b)).eqb (ltD g) = false from hq]
      walk_at "QD"
      rw [hIe]; exact ⟨(fun c hc => by rw [take_get hb] at hc; rcases List.mem_append.mp hc with hc | hc; exact g1 c hc; rw [List.mem_singleton.mp hc]; exact hq), by first | rfl | (simp; done), _, rfl⟩
  · rw [hIe] at hi; obtain ⟨g1, rfl, x0, rfl⟩ := hi
    rw [List.length_map, List.take_length] at g1
    walk_at "QD"
    rw [divL, List.find?_eq_none.mpr fun c hc => by rw [g1 c hc]; decide] at hR
    exact hR
theorem i_divides_left {a : Lt} {g : Lt} {ls : List Lt} {R : Rv → Mem → Prop} (h : rowsOk 100 ls) (hz : szL a ≤ 100) (k : R (.d (oLt (divL a g ls))) []) : c_divides_left [.d (ltD a), .d (ltD g), .d (lsD ls)] [] R := ⟨a, g, ls, rfl, rfl, h, hz, k⟩
end Lk26
set_option Elab.async false
set_option linter.all false
set_option maxRecDepth 100000
set_option maxHeartbeats 4000000
namespace Lk26
open PySem PySem.Spec PyProof.Rows L2 Dw
local macro_rules | `(tactic| walk_at "CALL") => `(tactic| first | (refine i_joined_lots (by walk_at "SIDE") ?_; walk_at "QS"; walk_at "GO"))
def c_divides_right : Ct := fun aa mm R => ∃ (a : Lt) (g : Lt) (ls : List Lt), aa = [.d (ltD a), .d (ltD g), .d (lsD ls)] ∧ mm = [] ∧ (rowsOk 100 ls) ∧ (szL a ≤ 100) ∧ (R (.d (oLt (divR a g ls))) [])
theorem ln_divides_right : ∀ rs M R, c_divides_right rs M R → rs.length = 3 ∧ M.length = 0 := by
  rintro aa mm R ⟨a, g, ls, rfl, rfl, _⟩; exact ⟨rfl, rfl⟩
set_option maxHeartbeats 8000000 in
theorem ok_divides_right {P : Program} {w : World} {K : PySem.W.Frag} {mg : Str → Option Value} {base : Heap} (T : Tx K mg) : FnOk P w K mg base CX0 2 T.a_divides_right T.fd_divides_right ["one", "goal", "rows"] (spD K c_divides_right) := by
  refine fnD (n0 := 0) T.F_divides_right sc_divides_right ln_divides_right fun cdv A outer s H E hr => ⟨_, (qss_cons (qs_for PassesOwn.never rfl (qi_tup (qv 2)) (qg_name (i := 3) sc_divides_right.nd rfl (by first | exact .inl rfl | exact .inr rfl)) (qss_one (qs_if (qt_eq (u64 hr) (qe_call (ok_joined_lots T) (hr.mono (by decide)) (by rfl) T.g_joined_lots T.F_joined_lots.kp (b_joined_lots T) (qa_cons (qv 3) (qa_cons (qv 0) qa_nil))) (qv 1)) (qss_one (qs_ret (qv 3))) qss_nil))) (qss_one (qs_ret qe_non))), fun rs M R h => ?_⟩
  obtain ⟨a, g, ls, rfl, rfl, h, hz, hR⟩ := h
  obtain ⟨h1, h2⟩ := h
  simp_all only [lsD]
  obtain ⟨Ie, hIe⟩ : ∃ I : Nat → Env' → Mem → Prop, I = fun i env M => (∀ b ∈ ls.take i, eqL (joinL b a) g = false) ∧ M = [] ∧ ∃ (x3 : Option Rv), env = [some (.d (ltD a)), some (.d (ltD g)), some (.d (.tup (ls.map ltD))), x3] := ⟨_, rfl⟩
  refine for_0 Ie (by rw [hIe]; exact ⟨by simp, rfl, _, rfl⟩) (fun i d env M hd hi => ?_) (fun env M hi => ?_)
  · rw [hIe] at hi; obtain ⟨g1, rfl, x0, rfl⟩ := hi
    obtain ⟨b, hb, rfl⟩ := map_get hd
    have hb' := h2 b (List.mem_of_getElem? hb)
    walk_at "QD"
    refine i_joined_lots (by omega) ?_
    simp_all only [ltD_eq]
    cases hq : eqL (joinL b a) g with
    | true =>
      rw [show (ltD (joinL b a)).eqb (ltD g) = true from hq]
      walk_at "QD"
      have := find_at (l := ls) (p := fun b => eqL (joinL b a) g) hb hq fun c hc => g1 c hc
      rw [divR, this] at hR
      exact hR
    | false =>
      rw [show (ltD (joinL b a)).eqb (ltD g) = false from hq]
      walk_at "QD"
      rw [hIe]; exact ⟨(fun c hc => by rw [take_get hb] at hc; rcases List.mem_append.mp hc with hc | hc; exact g1 c hc; rw [List.mem_singleton.mp hc]; exact hq), by first | rfl | (simp; done), _, rfl⟩
  · rw [hIe] at hi; obtain ⟨g1, rfl, x0, rfl⟩ := hi
    rw [List.length_map, List.take_length] at g1
    walk_at "QD"
    rw [divR, List.find?_eq_none.mpr fun c hc => by rw [g1 c hc]; decide] at hR
    exact hR
theorem i_divides_right {a : Lt} {g : Lt} {ls : List Lt} {R : Rv → Mem → Prop} (h : rowsOk 100 ls) (hz : szL a ≤ 100) (k : R (.d (oLt (divR a g ls))) []) : c_divides_right [.d (ltD a), .d (ltD g), .d (lsD ls)] [] R := ⟨a, g, ls, rfl, rfl, h, hz, k⟩
end Lk26
set_option Elab.async false
set_option linter.all false
set_option maxRecDepth 100000
set_option maxHeartbeats 4000000
namespace Lk26
open PySem PySem.Spec PyProof.Rows L2 Dw
local macro_rules | `(tactic| walk_at "CALL") => `(tactic| first | (refine i_joined_lots (by walk_at "SIDE") ?_; walk_at "QS"; walk_at "GO"))
def c_joined_all : Ct := fun aa mm R => ∃ (ls : List Lt), aa = [.d (lsD ls)] ∧ mm = [] ∧ (rowsOk 20 ls) ∧ (R (.d (ltD (allF ls))) [])
theorem ln_joined_all : ∀ rs M R, c_joined_all rs M R → rs.length = 1 ∧ M.length = 0 := by
  rintro aa mm R ⟨ls, rfl, rfl, _⟩; exact ⟨rfl, rfl⟩
set_option maxHeartbeats 8000000 in
theorem ok_joined_all {P : Program} {w : World} {K : PySem.W.Frag} {mg : Str → Option Value} {base : Heap} (T : Tx K mg) : FnOk P w K mg base CX0 2 T.a_joined_all T.fd_joined_all ["rows"] (spD K c_joined_all) := by
  refine fnD (n0 := 0) T.F_joined_all sc_joined_all ln_joined_all fun cdv A outer s H E hr => ⟨_, (qss_cons (qs_set (i := 1) sc_joined_all.nd rfl (.inl rfl) (qe_tup (qa_cons (qe_tup qa_nil) (qa_cons qe_int (qa_cons (qe_tup qa_nil) qa_nil))))) (qss_cons (qs_for PassesOwn.never rfl (qi_tup (qv 0)) (qg_name (i := 2) sc_joined_all.nd rfl (by first | exact .inl rfl | exact .inr rfl)) (qss_one (qs_set (i := 1) sc_joined_all.nd rfl (.inl rfl) (qe_call (ok_joined_lots T) (hr.mono (by decide)) (by rfl) T.g_joined_lots T.F_joined_lots.kp (b_joined_lots T) (qa_cons (qv 1) (qa_cons (qv 2) qa_nil)))))) (qss_one (qs_ret (qv 1))))), fun rs M R h => ?_⟩
  obtain ⟨ls, rfl, rfl, h, hR⟩ := h
  obtain ⟨h1, h2⟩ := h
  simp_all only [lsD]
  rw [show D.tup [.tup [], .int 0, .tup []] = ltD l0 from rfl]
  obtain ⟨Ia, hIa⟩ : ∃ I : Nat → Env' → Mem → Prop, I = fun i env M => ∃ (l : Lt), (l = allF (ls.take i)) ∧ (szL l ≤ i * 20) ∧ M = [] ∧ ∃ (x2 : Option Rv), env = [some (.d (.tup (ls.map ltD))), some (.d (ltD l)), x2] := ⟨_, rfl⟩
  refine for_0 Ia (by rw [hIa]; exact ⟨l0, rfl, by simp [szL_0], rfl, _, rfl⟩) (fun i d env M hd hi => ?_) (fun env M hi => ?_)
  · rw [hIa] at hi; obtain ⟨l, g1, g2, rfl, x0, rfl⟩ := hi
    obtain ⟨b, hb, rfl⟩ := map_get hd
    have hb' := h2 b (List.mem_of_getElem? hb)
    have hi := get_lt hb
    walk_at "QD"
    refine i_joined_lots (by omega) ?_
    walk_at "QD"
    rw [hIa]; exact ⟨joinL l b, by rw [take_get hb, allF, List.foldl_append, g1]; rfl, by rw [szL_join]; omega, by first | rfl | (simp; done), _, rfl⟩
  · rw [hIa] at hi; obtain ⟨l, g1, g2, rfl, x0, rfl⟩ := hi
    rw [List.length_map, List.take_length] at g1
    subst g1
    walk_at "QD"
    exact hR
theorem i_joined_all {ls : List Lt} {R : Rv → Mem → Prop} (h : rowsOk 20 ls) (k : R (.d (ltD (allF ls))) []) : c_joined_all [.d (lsD ls)] [] R := ⟨ls, rfl, rfl, h, k⟩
end Lk26
set_option Elab.async false
set_option linter.all false
set_option maxRecDepth 100000
set_option maxHeartbeats 4000000
namespace Lk26
open PySem PySem.Spec PyProof.Rows L2 Dw
local macro_rules | `(tactic| walk_at "CALL") => `(tactic| first | fail)
def c_change_of : Ct := fun aa mm R => ∃ (a : Lt), aa = [.d (ltD a)] ∧ mm = [] ∧ (R (.d (.int ((a.1.length : Int) + a.2.2.length - a.2.1))) [])
theorem ln_change_of : ∀ rs M R, c_change_of rs M R → rs.length = 1 ∧ M.length = 0 := by
  rintro aa mm R ⟨a, rfl, rfl, _⟩; exact ⟨rfl, rfl⟩
set_option maxHeartbeats 8000000 in
theorem ok_change_of {P : Program} {w : World} {K : PySem.W.Frag} {mg : Str → Option Value} {base : Heap} (T : Tx K mg) : FnOk P w K mg base CX0 1 T.a_change_of T.fd_change_of ["lots"] (spD K c_change_of) := by
  refine fnD (n0 := 0) T.F_change_of sc_change_of ln_change_of fun cdv A outer s H E hr => ⟨_, (qss_one (qs_ret (qe_sub (qe_add (qe_len (by rfl) T.n_len (qa_cons (qe_ix (qv 0) qe_int) qa_nil)) (qe_len (by rfl) T.n_len (qa_cons (qe_ix (qv 0) qe_int) qa_nil))) (qe_ix (qv 0) qe_int)))), fun rs M R h => ?_⟩
  obtain ⟨a, rfl, rfl, hR⟩ := h
  simp_all only [ltD]
  exact hR
theorem i_change_of {a : Lt} {R : Rv → Mem → Prop}  (k : R (.d (.int ((a.1.length : Int) + a.2.2.length - a.2.1))) []) : c_change_of [.d (ltD a)] [] R := ⟨a, rfl, rfl, k⟩
end Lk26
set_option Elab.async false
set_option linter.all false
set_option maxRecDepth 100000
set_option maxHeartbeats 4000000
namespace Lk26
open PySem PySem.Spec PyProof.Rows L2 Dw
local macro_rules | `(tactic| walk_at "CALL") => `(tactic| first | fail)
def c_unknown_taken : Ct := fun aa mm R => ∃ (a : Lt), aa = [.d (ltD a)] ∧ mm = [] ∧ (R (.d (.int ((a.2.1 : Int) - a.1.length))) [])
theorem ln_unknown_taken : ∀ rs M R, c_unknown_taken rs M R → rs.length = 1 ∧ M.length = 0 := by
  rintro aa mm R ⟨a, rfl, rfl, _⟩; exact ⟨rfl, rfl⟩
set_option maxHeartbeats 8000000 in
theorem ok_unknown_taken {P : Program} {w : World} {K : PySem.W.Frag} {mg : Str → Option Value} {base : Heap} (T : Tx K mg) : FnOk P w K mg base CX0 1 T.a_unknown_taken T.fd_unknown_taken ["lots"] (spD K c_unknown_taken) := by
  refine fnD (n0 := 0) T.F_unknown_taken sc_unknown_taken ln_unknown_taken fun cdv A outer s H E hr => ⟨_, (qss_one (qs_ret (qe_sub (qe_ix (qv 0) qe_int) (qe_len (by rfl) T.n_len (qa_cons (qe_ix (qv 0) qe_int) qa_nil))))), fun rs M R h => ?_⟩
  obtain ⟨a, rfl, rfl, hR⟩ := h
  simp_all only [ltD]
  exact hR
theorem i_unknown_taken {a : Lt} {R : Rv → Mem → Prop}  (k : R (.d (.int ((a.2.1 : Int) - a.1.length))) []) : c_unknown_taken [.d (ltD a)] [] R := ⟨a, rfl, rfl, k⟩
end Lk26
set_option Elab.async false
set_option linter.all false
set_option maxRecDepth 100000
set_option maxHeartbeats 4000000
namespace Lk26
open PySem PySem.Spec PyProof.Rows L2 Dw
local macro_rules | `(tactic| walk_at "CALL") => `(tactic| first | (refine i_joined_lots (by walk_at "SIDE") ?_; walk_at "QS"; walk_at "GO") | (refine i_lots_size  ?_; walk_at "QS"; walk_at "GO"))
def c_power_sizes : Ct := fun aa mm R => ∃ (a : Lt) (n : Nat), aa = [.d (ltD a), .d (.int n)] ∧ mm = [] ∧ (n * szL a ≤ 2000 ∧ n ≤ 100) ∧ (R (.d (.tup ((List.range (n + 1)).map fun k => .int (k * szL a : Nat)))) [])
theorem ln_power_sizes : ∀ rs M R, c_power_sizes rs M R → rs.length = 2 ∧ M.length = 0 := by
  rintro aa mm R ⟨a, n, rfl, rfl, _⟩; exact ⟨rfl, rfl⟩
set_option maxHeartbeats 8000000 in
theorem ok_power_sizes {P : Program} {w : World} {K : PySem.W.Frag} {mg : Str → Option Value} {base : Heap} (T : Tx K mg) : FnOk P w K mg base CX0 2 T.a_power_sizes T.fd_power_sizes ["lots", "times"] (spD K c_power_sizes) := by
  refine fnD (n0 := 0) T.F_power_sizes sc_power_sizes ln_power_sizes fun cdv A outer s H E hr => ⟨_, (qss_cons (qs_set (i := 2) sc_power_sizes.nd rfl (.inl rfl) (qe_tup (qa_cons (qe_tup qa_nil) (qa_cons qe_int (qa_cons (qe_tup qa_nil) qa_nil))))) (qss_cons (qs_set (i := 3) sc_power_sizes.nd rfl (.inl rfl) (qe_lstO (qa_cons qe_int qa_nil))) (qss_cons (qs_for PassesOwn.never rfl (qi_range1 (by rfl) T.n_range (qa_cons (qv 1) qa_nil)) (qg_name (i := 4) sc_power_sizes.nd rfl (by first | exact .inl rfl | exact .inr rfl)) (qss_cons (qs_set (i := 2) sc_power_sizes.nd rfl (.inl rfl) (qe_call (ok_joined_lots T) (hr.mono (by decide)) (by rfl) T.g_joined_lots T.F_joined_lots.kp (b_joined_lots T) (qa_cons (qv 2) (qa_cons (qv 0) qa_nil)))) (qss_one (qs_expr (qe_append (qv 3) (qe_call (ok_lots_size T) (hr.mono (by decide)) (by rfl) T.g_lots_size T.F_lots_size.kp (b_lots_size T) (qa_cons (qv 2) qa_nil))))))) (qss_one (qs_ret (qe_tuple (by rfl) T.n_tuple (qa_cons (qv 3) qa_nil))))))), fun rs M R h => ?_⟩
  obtain ⟨a, n, rfl, rfl, hz, hR⟩ := h
  walk_at "QD"
  refine ⟨by omega, by omega, ?_⟩
  rw [show D.tup [.tup [], .int 0, .tup []] = ltD l0 from rfl]
  obtain ⟨Ie, hIe⟩ : ∃ I : Nat → Env' → Mem → Prop, I = fun i env M => ∃ (l : Lt) (ns : List Nat), (l = powL a i) ∧ (ns = (List.range (i + 1)).map fun k => k * szL a) ∧ M = [.lst (ns.map fun k : Nat => D.int k)] ∧ ∃ (x4 : Option Rv), env = [some (.d (ltD a)), some (.d (.int n)), some (.d (ltD l)), some (.o 0), x4] := ⟨_, rfl⟩
  refine for_0 Ie (by rw [hIe]; exact ⟨l0, [0], rfl, by simp, rfl, _, rfl⟩) (fun i d env M hd hi => ?_) (fun env M hi => ?_)
  · rw [hIe] at hi; obtain ⟨l, ns, g1, g2, rfl, x0, rfl⟩ := hi
    obtain ⟨hi, rfl⟩ := rngD_get hd
    have hp := szL_pow a i
    have h2 := Nat.mul_le_mul_right (szL a) (show i + 1 ≤ n by omega)
    rw [Nat.succ_mul] at h2
    walk_at "QD"
    refine i_joined_lots (by rw [g1, hp]; omega) ?_
    walk_at "QD"
    refine i_lots_size ?_
    walk_at "QD"
    have hl : ns.length ≤ 101 := by rw [g2]; simp; omega
    refine ⟨sz' (by omega), ?_⟩
    rw [szL_join, g1, hp, show (ns.map fun k : Nat => D.int k) ++ [.int ((i * szL a + szL a : Nat) : Int)] = (ns ++ [i * szL a + szL a]).map fun k : Nat => D.int k by simp]
    rw [hIe]; exact ⟨joinL (powL a i) a, ns ++ [i * szL a + szL a], rfl, by rw [g2, List.range_succ (n := i + 1), List.map_append]; simp [Nat.succ_mul], by first | rfl | (simp; done), _, rfl⟩
  · rw [hIe] at hi; obtain ⟨l, ns, g1, g2, rfl, x0, rfl⟩ := hi
    rw [rngD_len, show (n : Int).toNat = n from rfl] at g2
    subst g2
    walk_at "QD"
    rw [List.map_map]
    exact hR
theorem i_power_sizes {a : Lt} {n : Nat} {R : Rv → Mem → Prop} (hz : n * szL a ≤ 2000 ∧ n ≤ 100) (k : R (.d (.tup ((List.range (n + 1)).map fun k => .int (k * szL a : Nat)))) []) : c_power_sizes [.d (ltD a), .d (.int n)] [] R := ⟨a, n, rfl, rfl, hz, k⟩
end Lk26
set_option Elab.async false
set_option linter.all false
set_option maxRecDepth 100000
set_option maxHeartbeats 4000000
namespace Lk26
open PySem PySem.Spec PyProof.Rows L2 Dw
local macro_rules | `(tactic| walk_at "CALL") => `(tactic| first | (refine i_done_by_lots (by walk_at "SIDE") ?_; walk_at "QS"; walk_at "GO"))
def c_kept_least : Ct := fun aa mm R => ∃ (a : Lt) (ts : List Int), aa = [.d (ltD a), .d (.tup (ts.map .int))] ∧ mm = [] ∧ (szL a ≤ 1000 ∧ ts.length ≤ 1000) ∧ (R (.d (oI (doneL a ts).head?)) [])
theorem ln_kept_least : ∀ rs M R, c_kept_least rs M R → rs.length = 2 ∧ M.length = 0 := by
  rintro aa mm R ⟨a, ts, rfl, rfl, _⟩; exact ⟨rfl, rfl⟩
set_option maxHeartbeats 8000000 in
theorem ok_kept_least {P : Program} {w : World} {K : PySem.W.Frag} {mg : Str → Option Value} {base : Heap} (T : Tx K mg) : FnOk P w K mg base CX0 2 T.a_kept_least T.fd_kept_least ["lots", "things"] (spD K c_kept_least) := by
  refine fnD (n0 := 0) T.F_kept_least sc_kept_least ln_kept_least fun cdv A outer s H E hr => ⟨_, (qss_cons (qs_set (i := 2) sc_kept_least.nd rfl (.inl rfl) (qe_call (ok_done_by_lots T) (hr.mono (by decide)) (by rfl) T.g_done_by_lots T.F_done_by_lots.kp (b_done_by_lots T) (qa_cons (qv 0) (qa_cons (qv 1) qa_nil)))) (qss_one (qs_ret (qe_if (qt_gt (qe_len (by rfl) T.n_len (qa_cons (qv 2) qa_nil)) qe_int) (qe_ix (qv 2) qe_int) qe_non)))), fun rs M R h => ?_⟩
  obtain ⟨a, ts, rfl, rfl, hz, hR⟩ := h
  walk_at "QD"
  refine i_done_by_lots (by omega) ?_
  walk_at "QD"
  cases hd : doneL a ts with
  | nil => rw [hd] at hR; walk_at "QD"; exact hR
  | cons x l =>
    rw [hd] at hR
    walk_at "QD"
    rw [if_pos (by omega)]
    exact hR
theorem i_kept_least {a : Lt} {ts : List Int} {R : Rv → Mem → Prop} (hz : szL a ≤ 1000 ∧ ts.length ≤ 1000) (k : R (.d (oI (doneL a ts).head?)) []) : c_kept_least [.d (ltD a), .d (.tup (ts.map .int))] [] R := ⟨a, ts, rfl, rfl, hz, k⟩
end Lk26
set_option Elab.async false
set_option linter.all false
set_option maxRecDepth 100000
set_option maxHeartbeats 4000000
namespace Lk26
open PySem PySem.Spec PyProof.Rows L2 Dw
local macro_rules | `(tactic| walk_at "CALL") => `(tactic| first | fail)
def c_least_kept_number : Ct := fun aa mm R => ∃ (a : Lt), aa = [.d (ltD a)] ∧ mm = [] ∧ (R (.d (oI a.2.2.head?)) [])
theorem ln_least_kept_number : ∀ rs M R, c_least_kept_number rs M R → rs.length = 1 ∧ M.length = 0 := by
  rintro aa mm R ⟨a, rfl, rfl, _⟩; exact ⟨rfl, rfl⟩
set_option maxHeartbeats 8000000 in
theorem ok_least_kept_number {P : Program} {w : World} {K : PySem.W.Frag} {mg : Str → Option Value} {base : Heap} (T : Tx K mg) : FnOk P w K mg base CX0 1 T.a_least_kept_number T.fd_least_kept_number ["lots"] (spD K c_least_kept_number) := by
  refine fnD (n0 := 0) T.F_least_kept_number sc_least_kept_number ln_least_kept_number fun cdv A outer s H E hr => ⟨_, (qss_one (qs_ret (qe_if (qt_gt (qe_len (by rfl) T.n_len (qa_cons (qe_ix (qv 0) qe_int) qa_nil)) qe_int) (qe_ix (qe_ix (qv 0) qe_int) qe_int) qe_non))), fun rs M R h => ?_⟩
  obtain ⟨a, rfl, rfl, hR⟩ := h
  simp_all only [ltD]
  cases hd : a.2.2 with
  | nil => rw [hd] at hR; walk_at "QD"; exact hR
  | cons x l =>
    rw [hd] at hR
    walk_at "QD"
    rw [if_pos (by omega)]
    exact hR
theorem i_least_kept_number {a : Lt} {R : Rv → Mem → Prop}  (k : R (.d (oI a.2.2.head?)) []) : c_least_kept_number [.d (ltD a)] [] R := ⟨a, rfl, rfl, k⟩
end Lk26
set_option Elab.async false
set_option linter.all false
set_option maxRecDepth 100000
set_option maxHeartbeats 4000000
namespace Lk26
open PySem PySem.Spec PyProof.Rows L2 Dw
local macro_rules | `(tactic| walk_at "CALL") => `(tactic| first | fail)
def c_lots_line : Ct := fun aa mm R => ∃ (a : Lt), aa = [.d (ltD a)] ∧ mm = [] ∧ (szL a ≤ 1000) ∧ (NumL a) ∧ (R (.d (.str (lineL a))) [])
theorem ln_lots_line : ∀ rs M R, c_lots_line rs M R → rs.length = 1 ∧ M.length = 0 := by
  rintro aa mm R ⟨a, rfl, rfl, _⟩; exact ⟨rfl, rfl⟩
set_option maxHeartbeats 8000000 in
theorem ok_lots_line {P : Program} {w : World} {K : PySem.W.Frag} {mg : Str → Option Value} {base : Heap} (T : Tx K mg) : FnOk P w K mg base CX0 1 T.a_lots_line T.fd_lots_line ["lots"] (spD K c_lots_line) := by
  refine fnD (n0 := 0) T.F_lots_line sc_lots_line ln_lots_line fun cdv A outer s H E hr => ⟨_, (qss_cons (qs_set (i := 1) sc_lots_line.nd rfl (.inl rfl) (qe_add (qe_add (qe_lc rfl sc_lots_line.nd (qi_tup (qe_ix (qv 0) qe_int)) (blkOk_by (own := [("one", 2)]) (N := ["lots", "words", "one"]) (sc := defScope s_lots_line) (by decide +kernel)) (by decide) (fun _ _ _ _ _ => (qg_name (i := 2) sc_lots_line.nd rfl (by first | exact .inl rfl | exact .inr rfl))) (fun _ _ _ _ _ => qts_nil) (fun _ _ _ _ _ => (qe_strc (by rfl) T.n_str (qa_cons (qv 2) qa_nil)))) (qe_lst (qa_cons qe_str (qa_cons (qe_strc (by rfl) T.n_str (qa_cons (qe_ix (qv 0) qe_int) qa_nil)) (qa_cons qe_str qa_nil))))) (qe_lc rfl sc_lots_line.nd (qi_tup (qe_ix (qv 0) qe_int)) (blkOk_by (own := [("one", 2)]) (N := ["lots", "words", "one"]) (sc := defScope s_lots_line) (by decide +kernel)) (by decide) (fun _ _ _ _ _ => (qg_name (i := 2) sc_lots_line.nd rfl (by first | exact .inl rfl | exact .inr rfl))) (fun _ _ _ _ _ => qts_nil) (fun _ _ _ _ _ => (qe_strc (by rfl) T.n_str (qa_cons (qv 2) qa_nil)))))) (qss_one (qs_ret (qe_join qe_str (qv 1))))), fun rs M R h => ?_⟩
  obtain ⟨a, rfl, rfl, hz, hn, hR⟩ := h
  have hs := szL_parts a
  simp_all only [ltD]
  refine ⟨sz (by omega), lc_map' D.int (fun x => .str (strI x)) _ (fun x hx G hG => ?_) ?_⟩
  · have := hn.1 x hx
    walk_at "QD"
    exact ⟨log_ok (by omega) (by omega), hG⟩
  walk_at "QD"
  refine ⟨log_ok (by omega) (by omega), ?_⟩
  rw [show a.1.map (fun x => D.str (strI x)) = (a.1.map strI).map .str by rw [List.map_map]; rfl, show ([D.str (Str.ofString "/"), .str (Str.ofString (toString (a.2.1 : Int))), .str (Str.ofString "/")] : List D) = [Str.ofString "/", strI a.2.1, Str.ofString "/"].map .str from rfl]
  refine ⟨_, addM_l (by simp; omega), sz (by omega), lc_map' D.int (fun x => .str (strI x)) _ (fun x hx G hG => ?_) ?_⟩
  · have := hn.2 x hx
    walk_at "QD"
    exact ⟨log_ok (by omega) (by omega), hG⟩
  walk_at "QD"
  rw [show a.2.2.map (fun x => D.str (strI x)) = (a.2.2.map strI).map .str by rw [List.map_map]; rfl]
  refine ⟨_, addM_l (by simp; omega), _, rfl, ?_, hR⟩
  have b1 := strs_len (r := a.1) fun n h => by have := hn.1 n h; omega
  have b2 := strs_len (r := a.2.2) fun n h => by have := hn.2 n h; omega
  have b3 := strI_len (i := (a.2.1 : Int)) (by omega) (by omega)
  have c4 : (Str.ofString " ").length = 1 := rfl
  have c5 : (Str.ofString "/").length = 1 := rfl
  simp only [List.map_append,List.sum_append,List.length_append,List.length_map,List.map_cons,List.map_nil,List.sum_cons,List.sum_nil,List.length_cons,List.length_nil,c4,c5] at b1 b2 ⊢
  omega
theorem i_lots_line {a : Lt} {R : Rv → Mem → Prop} (hz : szL a ≤ 1000) (hn : NumL a) (k : R (.d (.str (lineL a))) []) : c_lots_line [.d (ltD a)] [] R := ⟨a, rfl, rfl, hz, hn, k⟩
end Lk26
set_option Elab.async false
set_option linter.all false
set_option maxRecDepth 100000
set_option maxHeartbeats 4000000
namespace Lk26
open PySem PySem.Spec PyProof.Rows L2 Dw
local macro_rules | `(tactic| walk_at "CALL") => `(tactic| first | fail)
def c__law_trough : Ct := fun rs M R => ∃ ns : List Int, rs = [.d (.lst (ns.map .int))] ∧ M = [] ∧ ns.length ≤ 63 ∧ ∀ t : TrS, R (.o 3) [t.m0, t.m1, t.m2, t.m3]
theorem ln__law_trough : ∀ rs M R, c__law_trough rs M R → rs.length = 1 ∧ M.length = 0 := by
  rintro rs M R ⟨x, rfl, rfl, _⟩; exact ⟨rfl, rfl⟩
set_option maxHeartbeats 8000000 in
theorem ok__law_trough {P : Program} {w : World} {K : PySem.W.Frag} {mg : Str → Option Value} {base : Heap} (T : Tx K mg) : FnOk P w K mg base CX0 1 T.a__law_trough T.fd__law_trough ["script"] (spD K c__law_trough) := by
  refine fnA (n0 := 0) T.F__law_trough sc__law_trough ln__law_trough fun cdv A outer s H E hr => ⟨_, (qss_cons (qs_par (i := 1) (j := 2) rfl sc__law_trough.nd rfl rfl (by decide) rfl rfl (qa_cons qe_int (qa_cons (qe_lstO qa_nil) qa_nil)) (by rfl)) (qss_cons (qs_for PassesOwn.never rfl (qi_list (qe_sl (qv 0) qo_none (qo_some qe_int))) (qg_name (i := 3) sc__law_trough.nd rfl (by first | exact .inl rfl | exact .inr rfl)) (qss_cons (qs_set (i := 4) sc__law_trough.nd rfl (.inl rfl) (qe_mod (qe_abs (by rfl) T.n_abs (qa_cons (qe_intc (by rfl) T.n_int (qa_cons (qv 3) qa_nil)) qa_nil)) (qe_shl qe_int qe_int))) (qss_cons (qs_set (i := 1) sc__law_trough.nd rfl (.inl rfl) (qe_mod (qe_intc (by rfl) T.n_int (qa_cons (qe_add (qe_add (qe_add (qe_mul (qv 1) qe_int) (qe_mul (qe_mod (qv 4) qe_int) qe_int)) (qe_intc (by rfl) T.n_int (qa_cons (qe_lt (qe_intc (by rfl) T.n_int (qa_cons (qv 3) qa_nil)) qe_int) qa_nil))) qe_int) qa_nil)) qe_int)) (qss_one (qs_if (qt_ge (qv 4) (qe_pow qe_int qe_int)) (qss_one (qs_expr (qe_append (qv 2) (qv 4)))) qss_nil))))) (qss_one (qs_ret (qe_dispO (qp_cons qe_str (qv 1) (qp_cons qe_str (qe_raw (qe_backO (qv 2) (qe_neg qe_int))) (qp_cons qe_str (qe_raw qe_dnew) qp_nil)))))))), fun rs M R h => ?_⟩
  obtain ⟨ns, rfl, rfl, hl, hR⟩ := h
  have ecut : Dw.cutD (ns.map D.int) none (some 55) = (ns.take 55).map D.int := by
    rw [cut_map, show (55 : Int) = ((55 : Nat) : Int) from rfl, cut_take]
  simp_all? only [ecut]
  refine ⟨sz (by decide), for_0 (fun i env M => ∃ (gs : List Int) (st : Int) (e3 e4 : Option Rv), env = [some (.d (.lst (ns.map .int))), some (.d (.int st)), some (.o 0), e3, e4] ∧ M = [.lst (gs.map .int)] ∧ gs.length ≤ i ∧ (∀ g ∈ gs, 0 ≤ g) ∧ 0 ≤ st)
    ⟨[], 16013, none, none, rfl, rfl, by simp, by simp, by decide⟩ (fun i d env M hd hI => ?_) (fun env M hI => ?_)⟩
  · obtain ⟨gs, st, e3, e4, rfl, rfl, g1, g2, g3⟩ := hI
    have hi : i < 55 := by
      have := (List.getElem?_eq_some_iff.mp hd).1
      simp at this; omega
    obtain ⟨x, hx, rfl⟩ := map_get hd
    have hB : (0 : Int) < 2 ^ 1600 := Int.pow_pos (by decide)
    simp_all? only [List.length_map, Int.one_mul]
    generalize (2 : Int) ^ 1600 = B at hB ⊢
    rw [if_pos hB]
    simp_all? only [List.length_map]
    have hm : 0 ≤ (if x < 0 then -x else x) % B := Int.emod_nonneg _ (by omega)
    have hs : ∀ z : Int, 0 ≤ z % 2147479589 := fun z => Int.emod_nonneg _ (by decide)
    by_cases hq : 10 ^ 18 ≤ (if x < 0 then -x else x) % B
    · rw [if_pos (by first | exact hq | simpa using hq)]
      refine ⟨Dw.sz' (by omega), gs ++ [(if x < 0 then -x else x) % B], by simp, by simp; omega, fun g hg => ?_, hs _⟩
      rcases List.mem_append.mp hg with hg | hg
      · exact g2 g hg
      · have : g = (if x < 0 then -x else x) % B := by simpa using hg
        rw [this]; exact hm
    · rw [if_neg (by first | exact hq | simpa using hq)]
      exact ⟨by omega, g2, hs _⟩
  · obtain ⟨gs, st, e3, e4, rfl, rfl, g1, g2, g3⟩ := hI
    walk_at "RD"
    have hk : ∀ a a', dMerge [] [(Sum.inr (Str.ofString "stirred"), D.int st), (Sum.inr (Str.ofString "great"), .ref a), (Sum.inr (Str.ofString "habits"), .ref a')] = troughK st a a' := fun a a' => by
      rw [dMerge_nodup (by simp [ofS_inj])]; rfl
    rw [List.length_map, List.length_take] at g1
    refine fun a => ⟨⟨_, rfl⟩, fun a' => ?_⟩
    rw [hk]
    exact hR ⟨_, _, _, _, a, a', gs.reverse, [], st, by rw [List.map_reverse], rfl, rfl, by rw [List.length_reverse]; omega, fun g hg => g2 g (List.mem_reverse.mp hg), ⟨by simp, by simp⟩, g3⟩
end Lk26
set_option Elab.async false
set_option linter.all false
set_option maxRecDepth 100000
set_option maxHeartbeats 4000000
namespace Lk26
open PySem PySem.Spec PyProof.Rows L2 Dw
local macro_rules | `(tactic| walk_at "CALL") => `(tactic| first | fail)
def c__law_ladle : Ct := fun aa mm R => ∃ (t : TrS) (m : Int), aa = [.o 3, .d (.int m)] ∧ mm = [t.m0, t.m1, t.m2, t.m3] ∧ (1 ≤ m ∧ m ≤ 1000000) ∧ (∀ (r : Int), (0 ≤ r) → (r < m) → ∀ t' : TrS, R (.d (.int r)) [t'.m0, t'.m1, t'.m2, t'.m3])
theorem ln__law_ladle : ∀ rs M R, c__law_ladle rs M R → rs.length = 2 ∧ M.length = 4 := by
  rintro aa mm R ⟨t, m, rfl, rfl, _⟩; exact ⟨rfl, rfl⟩
set_option maxHeartbeats 8000000 in
theorem ok__law_ladle {P : Program} {w : World} {K : PySem.W.Frag} {mg : Str → Option Value} {base : Heap} (T : Tx K mg) : FnOk P w K mg base CX0 1 T.a__law_ladle T.fd__law_ladle ["trough", "many"] (spD K c__law_ladle) := by
  refine fnD (n0 := 4) T.F__law_ladle sc__law_ladle ln__law_ladle fun cdv A outer s H E hr => ⟨_, (qss_cons (qs_if (qt_gt (qe_len (by rfl) T.n_len (qa_cons (qe_obj 1 (qe_dget (u64 hr) (qv 0) qe_str)) qa_nil)) qe_int) (qss_cons (qs_set (i := 2) sc__law_ladle.nd rfl (.inl rfl) (qe_pop (qe_obj 1 (qe_dget (u64 hr) (qv 0) qe_str)))) (qss_cons (qs_if (QW.t (qw_and (qt_ge (qv 2) (qv 1)) (qw_and1 (qt_gt (qv 1) qe_int)))) (qss_one (qs_expr (qe_append (qe_obj 1 (qe_dget (u64 hr) (qv 0) qe_str)) (qe_fdiv (qv 2) (qv 1))))) qss_nil) (qss_one (qs_ret (qe_mod (qe_intc (by rfl) T.n_int (qa_cons (qv 2) qa_nil)) (qv 1)))))) qss_nil) (qss_cons (qs_dput (u64 hr) (qv 0) qe_str (qe_mod (qe_intc (by rfl) T.n_int (qa_cons (qe_add (qe_mul (qe_dget (u64 hr) (qv 0) qe_str) qe_int) qe_int) qa_nil)) qe_int)) (qss_one (qs_ret (qe_mod (qe_intc (by rfl) T.n_int (qa_cons (qe_fdiv (qe_dget (u64 hr) (qv 0) qe_str) qe_int) qa_nil)) (qv 1)))))), fun rs M R h => ?_⟩
  obtain ⟨t, m, rfl, rfl, hm', hR⟩ := h
  obtain ⟨m0, m1, m2, m3, a1, a2, gs, kvs, st, rfl, rfl, rfl, t1, t2, t3, t4⟩ := t
  obtain ⟨hm, hm9⟩ := hm'
  refine seq_ ?_
  simp_all? [gt_g]
  rcases List.eq_nil_or_concat gs with rfl | ⟨l, x, rfl⟩
  · rw [if_neg (by simp)]
    refine seq_ ?_
    simp_all? [gt_p, gt_s]
    have hs : 0 ≤ (st * 89209 + 499) % 2147479589 := Int.emod_nonneg _ (by decide)
    generalize (st * 89209 + 499) % 2147479589 = s' at hs ⊢
    refine ⟨sz' (by show 3 ≤ _; decide), ?_⟩
    refine ⟨_, if_pos (by omega), hR _ (Int.emod_nonneg _ (by omega)) (Int.emod_lt_of_pos _ (by omega)) ⟨_, _, _, _, a1, a2, [], kvs, s', rfl, rfl, rfl, by simp, by simp, t3, hs⟩⟩
  · rw [List.concat_eq_append] at t1 t2 ⊢
    have hx : 0 ≤ x := t2 x (by simp)
    have f1 : ((l ++ [x]).map D.int).getLast? = some (.int x) := by simp
    have f2 : ((l ++ [x]).map D.int).dropLast = l.map .int := by simp
    have hr0 := Int.emod_nonneg x (b := m) (by omega)
    have hr1 := Int.emod_lt_of_pos x (b := m) (by omega)
    have hll : l.length + 1 ≤ 100 := by simpa using t1
    rw [if_pos (by simp)]
    refine seq_ ?_
    simp_all? [gt_g, f1, f2]
    refine seq_ ?_
    simp_all? [gt_g]
    have done : ∃ z, (if 0 < m then some (D.int (x % m)) else none) = some z ∧ R (.d z) [m0, .la a1 (l.map .int), .da a2 kvs, .dic (troughK st a1 a2)] :=
      ⟨_, if_pos (by omega), hR _ hr0 hr1 ⟨_, _, _, _, a1, a2, l, kvs, st, rfl, rfl, rfl, by omega, fun g hg => t2 g (List.mem_append_left _ hg), t3, t4⟩⟩
    by_cases c1 : m ≤ x
    · rw [if_pos c1]
      by_cases c2 : 1 < m
      · rw [if_pos c2]
        refine ⟨_, if_pos ⟨by omega, by omega⟩, sz' (by omega), _, if_pos (by omega), hR _ hr0 hr1 ⟨_, _, _, _, a1, a2, l ++ [x / m], kvs, st, by simp, rfl, rfl, by simp; omega, fun g hg => ?_, t3, t4⟩⟩
        rcases List.mem_append.mp hg with hg | hg
        · exact t2 g (List.mem_append_left _ hg)
        · have : g = x / m := by simpa using hg
          rw [this]; exact Int.ediv_nonneg hx (by omega)
      · rw [if_neg c2]; exact done
    · rw [if_neg c1]; exact done
theorem i__law_ladle {t : TrS} {m : Int} {R : Rv → Mem → Prop} (hm' : 1 ≤ m ∧ m ≤ 1000000) (k : ∀ (r : Int), (0 ≤ r) → (r < m) → ∀ t' : TrS, R (.d (.int r)) [t'.m0, t'.m1, t'.m2, t'.m3]) : c__law_ladle [.o 3, .d (.int m)] [t.m0, t.m1, t.m2, t.m3] R := ⟨t, m, rfl, rfl, hm', k⟩
end Lk26
set_option Elab.async false
set_option linter.all false
set_option maxRecDepth 100000
set_option maxHeartbeats 4000000
namespace Lk26
open PySem PySem.Spec PyProof.Rows L2 Dw
local macro_rules | `(tactic| walk_at "CALL") => `(tactic| first | fail)
def c__law_habit : Ct := fun aa mm R => ∃ (t : TrS) (p : Int) (m : Int), aa = [.o 3, .d (.int p), .d (.int m)] ∧ mm = [t.m0, t.m1, t.m2, t.m3] ∧ (0 ≤ p ∧ p < 100) ∧ (1 ≤ m ∧ m ≤ 1000000) ∧ (∀ (r : Int), (0 ≤ r) → (r < m) → ∀ t' : TrS, R (.d (.int r)) [t'.m0, t'.m1, t'.m2, t'.m3])
theorem ln__law_habit : ∀ rs M R, c__law_habit rs M R → rs.length = 3 ∧ M.length = 4 := by
  rintro aa mm R ⟨t, p, m, rfl, rfl, _⟩; exact ⟨rfl, rfl⟩
set_option maxHeartbeats 8000000 in
theorem ok__law_habit {P : Program} {w : World} {K : PySem.W.Frag} {mg : Str → Option Value} {base : Heap} (T : Tx K mg) : FnOk P w K mg base CX0 2 T.a__law_habit T.fd__law_habit ["trough", "place", "many"] (spD K c__law_habit) := by
  refine fnD (n0 := 4) T.F__law_habit sc__law_habit ln__law_habit fun cdv A outer s H E hr => ⟨_, (qss_cons (qs_if (qt_dnin (u64 hr) (qv 1) (qe_obj 2 (qe_dget (u64 hr) (qv 0) qe_str))) (qss_one (qs_dput (u64 hr) (qe_obj 2 (qe_dget (u64 hr) (qv 0) qe_str)) (qv 1) (qe_tup (qa_cons (qe_callG 4 (ok__law_ladle T) (hr.mono (by decide)) (by rfl) T.g__law_ladle T.F__law_ladle.kp (b__law_ladle T) (qa_cons (qv 0) (qa_cons qe_int qa_nil))) (qa_cons (qe_callG 4 (ok__law_ladle T) (hr.mono (by decide)) (by rfl) T.g__law_ladle T.F__law_ladle.kp (b__law_ladle T) (qa_cons (qv 0) (qa_cons qe_int qa_nil))) qa_nil))))) qss_nil) (qss_cons (qs_asg (qe_dget (u64 hr) (qe_obj 2 (qe_dget (u64 hr) (qv 0) qe_str)) (qv 1)) (qg_tupn (n := 2) rfl (qgs_cons (qg_name (i := 3) sc__law_habit.nd rfl (by first | exact .inl rfl | exact .inr rfl)) (qgs_cons (qg_name (i := 4) sc__law_habit.nd rfl (by first | exact .inl rfl | exact .inr rfl)) qgs_nil)))) (qss_cons (qs_set (i := 5) sc__law_habit.nd rfl (.inl rfl) (qe_callG 4 (ok__law_ladle T) (hr.mono (by decide)) (by rfl) T.g__law_ladle T.F__law_ladle.kp (b__law_ladle T) (qa_cons (qv 0) (qa_cons (qv 2) qa_nil)))) (qss_cons (qs_if (qt_lt (qv 3) qe_int) (qss_one (qs_ret (qe_mul (qv 3) (qe_sub (qv 2) qe_int)))) qss_nil) (qss_one (qs_ret (qe_if (qt_eq (u64 hr) (qv 3) qe_int) (qe_mod (qe_intc (by rfl) T.n_int (qa_cons (qv 4) qa_nil)) (qv 2)) (qv 5)))))))), fun rs M R h => ?_⟩
  obtain ⟨t, p, m, rfl, rfl, hp, hm', hR⟩ := h
  obtain ⟨m0, m1, m2, m3, a1, a2, gs, kvs, st, rfl, rfl, rfl, t1, t2, t3, t4⟩ := t
  obtain ⟨hm, hm9⟩ := hm'
  refine seq_ ?_
  simp_all? [gt_h]
  cases hg : dGetK kvs (.inl p)
  case' none =>
    rw [if_pos (by rfl)]
    refine i__law_ladle (t := ⟨_, _, _, _, a1, a2, gs, kvs, st, rfl, rfl, rfl, t1, t2, t3, t4⟩) (by decide) fun h h0 h1 t => ?_
    walk_at "RS"
    refine i__law_ladle (by decide) fun k k0 k1 t => ?_
    walk_at "RS"
    obtain ⟨m0, m1, m2, m3, a1, a2, gs, kvs, st, rfl, rfl, rfl, t1, t2, t3, t4⟩ := t
    simp_all? [gt_h]
    have t3' := put_kv (p := p) (h := h) (k := k) t3 hp ⟨h0, h1⟩
    have k2 := dGet_put (kvs := kvs) (k := .inl p) (d := .tup [.int h, .int k])
    have k3 := kv_len t3
    refine ⟨sz (by decide), sz' (by omega), ?_⟩
    clear t3 k3 hg
    generalize dPutK kvs (.inl p) (.tup [.int h, .int k]) = kvs at t3' k2 ⊢
    have t3 := t3'
    refine seq_ ?_
    simp_all? [gt_h, k2]
  case' some d =>
    obtain ⟨h, k, rfl, h0, h1⟩ := get_kv t3 hg
    rw [if_neg (by simp)]
    refine seq_ ?_
    simp_all? [gt_h, hg]
  all_goals
    refine seq_ ?_
    walk_at "RS"
    refine i__law_ladle (t := ⟨_, _, _, _, a1, a2, gs, kvs, st, rfl, rfl, rfl, t1, t2, t3, t4⟩) (by omega) fun r r0 r1 t => ?_
    walk_at "RS"
    refine seq_ ?_
    walk_at "RS"
    by_cases c1 : h < 2
    · rw [if_pos c1]
      refine ⟨_, if_pos (.inl ⟨by omega, by omega⟩), ?_⟩
      rcases (by omega : h = 0 ∨ h = 1) with rfl | rfl
      · exact hR _ (by omega) (by omega) t
      · exact hR _ (by omega) (by omega) t
    · rw [if_neg c1]
      by_cases c2 : h = 2
      · rw [if_pos c2]
        exact ⟨_, if_pos (by omega), hR _ (Int.emod_nonneg _ (by omega)) (Int.emod_lt_of_pos _ (by omega)) t⟩
      · rw [if_neg c2]
        exact hR _ r0 r1 t
theorem i__law_habit {t : TrS} {p : Int} {m : Int} {R : Rv → Mem → Prop} (hp : 0 ≤ p ∧ p < 100) (hm' : 1 ≤ m ∧ m ≤ 1000000) (k : ∀ (r : Int), (0 ≤ r) → (r < m) → ∀ t' : TrS, R (.d (.int r)) [t'.m0, t'.m1, t'.m2, t'.m3]) : c__law_habit [.o 3, .d (.int p), .d (.int m)] [t.m0, t.m1, t.m2, t.m3] R := ⟨t, p, m, rfl, rfl, hp, hm', k⟩
end Lk26
set_option Elab.async false
set_option linter.all false
set_option maxRecDepth 100000
set_option maxHeartbeats 4000000
namespace Lk26
open PySem PySem.Spec PyProof.Rows L2 Dw
local macro_rules | `(tactic| walk_at "CALL") => `(tactic| first | fail)
def c__law_same : Ct := fun aa mm R => ∃ (d : D) (e : D), aa = [.d (d), .d (e)] ∧ mm = [] ∧ (e = d) ∧ (plain d = true) ∧ (psz d ≤ 9000) ∧ (R (.d (.bl true)) [])
theorem ln__law_same : ∀ rs M R, c__law_same rs M R → rs.length = 2 ∧ M.length = 0 := by
  rintro aa mm R ⟨d, e, rfl, rfl, _⟩; exact ⟨rfl, rfl⟩
set_option maxHeartbeats 8000000 in
theorem ok__law_same {P : Program} {w : World} {K : PySem.W.Frag} {mg : Str → Option Value} {base : Heap} (T : Tx K mg) : FnOk P w K mg base CX0 1 T.a__law_same T.fd__law_same ["told", "due"] (spD K c__law_same) := by
  refine fnD (n0 := 0) T.F__law_same sc__law_same ln__law_same fun cdv A outer s H E hr => ⟨_, (qss_cons (qs_set (i := 2) sc__law_same.nd rfl (.inl rfl) (qe_lstO (qa_cons (qe_tup (qa_cons (qv 0) (qa_cons (qv 1) qa_nil))) qa_nil))) (qss_cons (qs_while PassesOwn.never (qt_gt (qe_len (by rfl) T.n_len (qa_cons (qv 2) qa_nil)) qe_int) (qss_cons (qs_asg (qe_pop (qv 2)) (qg_tupn (n := 2) rfl (qgs_cons (qg_name (i := 3) sc__law_same.nd rfl (by first | exact .inl rfl | exact .inr rfl)) (qgs_cons (qg_name (i := 4) sc__law_same.nd rfl (by first | exact .inl rfl | exact .inr rfl)) qgs_nil)))) (qss_one (qs_if (qt_val (qe_isi (by rfl) T.n_isinstance (qa_cons (qv 4) (qa_cons (qe_ty (by rfl) T.n_tuple boot_tuple) qa_nil)))) (qss_cons (qs_if (QW.t (qw_or (qt_not (qt_val (qe_isi (by rfl) T.n_isinstance (qa_cons (qv 3) (qa_cons (qe_ty (by rfl) T.n_tuple boot_tuple) qa_nil))))) (qw_or1 (qt_ne (u64 hr) (qe_len (by rfl) T.n_len (qa_cons (qv 3) qa_nil)) (qe_len (by rfl) T.n_len (qa_cons (qv 4) qa_nil)))))) (qss_one (qs_ret qe_bl)) qss_nil) (qss_one (qs_expr (qe_extendL (qv 2) (qel_lc rfl sc__law_same.nd (qi_range1 (by rfl) T.n_range (qa_cons (qe_len (by rfl) T.n_len (qa_cons (qv 4) qa_nil)) qa_nil)) (blkOk_by (own := [("at", 5)]) (N := ["told", "due", "todo", "one", "other", "at"]) (sc := defScope s__law_same) (by decide +kernel)) (by decide) (fun _ _ _ _ _ => (qg_name (i := 5) sc__law_same.nd rfl (by first | exact .inl rfl | exact .inr rfl))) (fun _ _ _ _ _ => qts_nil) (fun _ _ _ _ _ => (qe_tup (qa_cons (qe_ix (qv 3) (qv 5)) (qa_cons (qe_ix (qv 4) (qv 5)) qa_nil))))))))) (qss_one (qs_if (qt_is (qv 4) qe_non) (qss_one (qs_if (qt_isNot (qv 3) qe_non) (qss_one (qs_ret qe_bl)) qss_nil)) (qss_one (qs_if (qt_val (qe_isi (by rfl) T.n_isinstance (qa_cons (qv 4) (qa_cons (qe_ty (by rfl) T.n_bool boot_bool) qa_nil)))) (qss_one (qs_if (QW.t (qw_or (qt_not (qt_val (qe_isi (by rfl) T.n_isinstance (qa_cons (qv 3) (qa_cons (qe_ty (by rfl) T.n_bool boot_bool) qa_nil))))) (qw_or1 (qt_ne (u64 hr) (qv 3) (qv 4))))) (qss_one (qs_ret qe_bl)) qss_nil)) (qss_one (qs_if (qt_val (qe_isi (by rfl) T.n_isinstance (qa_cons (qv 4) (qa_cons (qe_ty (by rfl) T.n_str boot_str) qa_nil)))) (qss_one (qs_if (QW.t (qw_or (qt_not (qt_val (qe_isi (by rfl) T.n_isinstance (qa_cons (qv 3) (qa_cons (qe_ty (by rfl) T.n_str boot_str) qa_nil))))) (qw_or1 (qt_ne (u64 hr) (qv 3) (qv 4))))) (qss_one (qs_ret qe_bl)) qss_nil)) (qss_one (qs_if (QW.t (qw_or (qt_not (qt_val (qe_isi (by rfl) T.n_isinstance (qa_cons (qv 3) (qa_cons (qe_ty (by rfl) T.n_int boot_int) qa_nil))))) (qw_or (qt_val (qe_isi (by rfl) T.n_isinstance (qa_cons (qv 3) (qa_cons (qe_ty (by rfl) T.n_bool boot_bool) qa_nil)))) (qw_or1 (qt_ne (u64 hr) (qv 3) (qv 4)))))) (qss_one (qs_ret qe_bl)) qss_nil)))))))))))) (qss_one (qs_ret qe_bl)))), fun rs M R h => ?_⟩
  obtain ⟨d, e, rfl, rfl, he, hp, hz, hR⟩ := h
  subst he
  refine seq_ ?_
  walk_at "RS"
  refine ⟨sz (by decide), sz (by decide), seq_ (whl (fun m env M => ∃ (ws : List D) (e3 e4 e5 : Option Rv), env = [some (.d e), some (.d e), some (.o 0), e3, e4, e5] ∧ M = [.lst (ws.map fun w => .tup [w, w])] ∧ (∀ w ∈ ws, plain w = true) ∧ pszs ws = m ∧ m ≤ 9000) (psz e) ⟨[e], none, none, none, rfl, rfl, by simpa using hp, by simp [pszs], hz⟩ ?_)⟩
  rintro m env M ⟨ws, e3, e4, e5, rfl, rfl, g1, g2, g3⟩
  refine ⟨fun en m' => ∃ (ws : List D) (e3 e4 e5 : Option Rv), en = [some (.d e), some (.d e), some (.o 0), e3, e4, e5] ∧ m' = [.lst (ws.map fun w => .tup [w, w])] ∧ (∀ w ∈ ws, plain w = true) ∧ pszs ws < m,
    fun en m' ⟨ws, e3, e4, e5, h1, h2, h3, h4⟩ => ⟨pszs ws, h4, ws, e3, e4, e5, h1, h2, h3, rfl, by omega⟩, ?_⟩
  rcases List.eq_nil_or_concat ws with rfl | ⟨l, x, rfl⟩
  · walk_at "RD"
    exact hR
  · rw [List.concat_eq_append] at g1 g2 ⊢
    have px : plain x = true := g1 x (by simp)
    have hl : pszs l + psz x = m := by rw [pszs_app] at g2; simpa [pszs] using g2
    have pl : ∀ w ∈ l, plain w = true := fun w hw => g1 w (List.mem_append_left _ hw)
    have f1 : ((l ++ [x]).map fun w => D.tup [w, w]).getLast? = some (.tup [x, x]) := by simp
    have f2 : ((l ++ [x]).map fun w => D.tup [w, w]).dropLast = l.map fun w => D.tup [w, w] := by simp
    have f3 : 0 < (((l ++ [x]).map fun w => D.tup [w, w]).length : Int) := by simp
    walk_at "RS"
    rw [if_pos (by simp)]
    refine seq_ ?_
    simp_all? [f1, f2]
    have hz1 := psz_pos x
    cases x with
    | tup xs =>
      walk_at "RS"
      have hxz : 1 + pszs xs = psz (.tup xs) := by rw [psz]
      have hxl := pszs_len xs
      have pxs : ∀ w ∈ xs, plain w = true := plains_all.mp (by simpa [Dw.plain] using px)
      have hll := pszs_len l
      refine seq_ ?_
      walk_at "RS"
      refine ⟨by omega, by omega, sz (by rw [rngD_len]; omega), ?_⟩
      rw [show (xs.length : Int).toNat = xs.length from rfl]
      refine lc_rng (fun k => .tup [xs.getD k .non, xs.getD k .non]) xs.length (fun k hk G hG => ?_) ?_
      · simp_all? [atI_nat (List.getElem?_eq_getElem hk)]
        exact ⟨sz (by decide), by simpa [List.getD_eq_getElem?_getD, List.getElem?_eq_getElem hk] using hG⟩
      · walk_at "RS"
        have ex : (List.range xs.length).map (fun k => D.tup [xs.getD k .non, xs.getD k .non]) = xs.map fun w => .tup [w, w] := by
          refine List.ext_getElem (by simp) fun k h1 h2 => ?_
          have hk : k < xs.length := by simpa using h1
          simp [List.getD_eq_getElem?_getD, List.getElem?_eq_getElem hk]
        rw [ex]
        refine ⟨sz (by simp; omega), l ++ xs, by simp, fun w hw => ?_, by rw [pszs_app]; omega⟩
        rcases List.mem_append.mp hw with hw | hw
        · exact pl w hw
        · exact pxs w hw
    | non => walk_at "RS"; first | exact ⟨l, rfl, pl, by omega⟩ | omega
    | bl b => walk_at "RS"; first | exact ⟨l, rfl, pl, by omega⟩ | omega
    | int i => walk_at "RS"; first | exact ⟨l, rfl, pl, by omega⟩ | omega
    | str i => walk_at "RS"; first | exact ⟨l, rfl, pl, by omega⟩ | omega
    | _ => cases px
theorem i__law_same {d : D} {e : D} {R : Rv → Mem → Prop} (he : e = d) (hp : plain d = true) (hz : psz d ≤ 9000) (k : R (.d (.bl true)) []) : c__law_same [.d (d), .d (e)] [] R := ⟨d, e, rfl, rfl, he, hp, hz, k⟩
end Lk26
set_option Elab.async false
set_option linter.all false
set_option maxRecDepth 100000
set_option maxHeartbeats 4000000
namespace Lk26
open PySem PySem.Spec PyProof.Rows L2 Dw
local macro_rules | `(tactic| walk_at "CALL") => `(tactic| first | fail)
def c__law_silent : Ct := fun aa mm R => ∃ (t : TrS) (nm : Str) (most : Nat), aa = [.o 3, .d (.str nm), .d (.int most)] ∧ mm = [t.m0, t.m1, t.m2, t.m3] ∧ (1 ≤ most ∧ most ≤ 100) ∧ (∀ (r : List (Option Int)), (r.length ≤ most) → (NumO r) → ∀ t' : TrS, R (.d (rcD (srcm (nm, r)))) [t'.m0, t'.m1, t'.m2, t'.m3])
theorem ln__law_silent : ∀ rs M R, c__law_silent rs M R → rs.length = 3 ∧ M.length = 4 := by
  rintro aa mm R ⟨t, nm, most, rfl, rfl, _⟩; exact ⟨rfl, rfl⟩
set_option maxHeartbeats 8000000 in
theorem ok__law_silent {P : Program} {w : World} {K : PySem.W.Frag} {mg : Str → Option Value} {base : Heap} (T : Tx K mg) : FnOk P w K mg base CX0 3 T.a__law_silent T.fd__law_silent ["trough", "name", "most"] (spD K c__law_silent) := by
  refine fnD (n0 := 4) T.F__law_silent sc__law_silent ln__law_silent fun cdv A outer s H E hr => ⟨_, (qss_cons (qs_set (i := 3) sc__law_silent.nd rfl (.inl rfl) (qe_lstO qa_nil)) (qss_cons (qs_for PassesOwn.never rfl (qi_range1 (by rfl) T.n_range (qa_cons (qe_max2 rfl (by rfl) T.n_max (qa_cons (qe_callG 4 (ok__law_habit T) (hr.mono (by decide)) (by rfl) T.g__law_habit T.F__law_habit.kp (b__law_habit T) (qa_cons (qv 0) (qa_cons qe_int (qa_cons (qe_add (qv 2) qe_int) qa_nil)))) (qa_cons (qe_callG 4 (ok__law_ladle T) (hr.mono (by decide)) (by rfl) T.g__law_ladle T.F__law_ladle.kp (b__law_ladle T) (qa_cons (qv 0) (qa_cons (qe_add (qe_fdiv (qv 2) qe_int) qe_int) qa_nil))) qa_nil))) qa_nil)) (qg_name (i := 4) sc__law_silent.nd rfl (by first | exact .inl rfl | exact .inr rfl)) (qss_cons (qs_set (i := 5) sc__law_silent.nd rfl (.inl rfl) (qe_ix (qe_tup (qa_cons (qe_callG 4 (ok__law_ladle T) (hr.mono (by decide)) (by rfl) T.g__law_ladle T.F__law_ladle.kp (b__law_ladle T) (qa_cons (qv 0) (qa_cons qe_int qa_nil))) (qa_cons qe_int (qa_cons qe_int (qa_cons qe_int (qa_cons (qe_callG 4 (ok__law_ladle T) (hr.mono (by decide)) (by rfl) T.g__law_ladle T.F__law_ladle.kp (b__law_ladle T) (qa_cons (qv 0) (qa_cons qe_int qa_nil))) qa_nil)))))) (qe_callG 4 (ok__law_habit T) (hr.mono (by decide)) (by rfl) T.g__law_habit T.F__law_habit.kp (b__law_habit T) (qa_cons (qv 0) (qa_cons qe_int (qa_cons qe_int qa_nil)))))) (qss_one (qs_expr (qe_append (qv 3) (qe_if (qt_lt (qe_callG 4 (ok__law_ladle T) (hr.mono (by decide)) (by rfl) T.g__law_ladle T.F__law_ladle.kp (b__law_ladle T) (qa_cons (qv 0) (qa_cons qe_int qa_nil))) (qe_add qe_int (qe_callG 4 (ok__law_habit T) (hr.mono (by decide)) (by rfl) T.g__law_habit T.F__law_habit.kp (b__law_habit T) (qa_cons (qv 0) (qa_cons qe_int (qa_cons qe_int qa_nil)))))) (qe_tup (qa_cons qe_str (qa_cons (qv 1) qa_nil))) (qe_tup (qa_cons qe_str (qa_cons (qv 1) (qa_cons (qv 5) qa_nil)))))))))) (qss_one (qs_ret (qe_tuple (by rfl) T.n_tuple (qa_cons (qv 3) qa_nil)))))), fun rs M R h => ?_⟩
  obtain ⟨t, nm, most, rfl, rfl, hm, hR⟩ := h
  walk_at "QD"
  refine i__law_habit (by omega) (by omega) fun r r0 r1 t => ?_
  walk_at "QD"
  refine i__law_ladle (by omega) fun s s0 s1 t => ?_
  walk_at "QD"
  have hk : 0 ≤ max r s ∧ max r s ≤ most := by omega
  generalize max r s = k at hk ⊢
  refine ⟨by omega, by omega, ?_⟩
  obtain ⟨Ia, hIa⟩ : ∃ I : Nat → Env' → Mem → Prop, I = fun i env M => ∃ (t : TrS) (os : List (Option Int)), (os.length = i) ∧ (NumO os) ∧ M = [t.m0, t.m1, t.m2, t.m3, .lst ((srcm (nm, os)).map cmD)] ∧ ∃ (x4 : Option Rv) (x5 : Option Rv), env = [some (.o 3), some (.d (.str nm)), some (.d (.int most)), some (.o 4), x4, x5] := ⟨_, rfl⟩
  refine for_0 Ia (by rw [hIa]; exact ⟨_, [], rfl, (by intro n h; cases h), rfl, _, _, rfl⟩) (fun i d env M hd hi => ?_) (fun env M hi => ?_)
  · rw [hIa] at hi; obtain ⟨t, os, h1, h2, rfl, x0, x1, rfl⟩ := hi
    obtain ⟨hi, rfl⟩ := rngD_get hd
    have add : ∀ (t : TrS) (o : Option Int) (y1 y2 : Option Rv), (∀ n, o = some n → 0 ≤ n ∧ n ≤ 999) → (srcm (nm, os)).length < sizeLine ∧ Ia (i + 1) [some (.o 3), some (.d (.str nm)), some (.d (.int most)), some (.o 4), y1, y2] [t.m0, t.m1, t.m2, t.m3, .lst ((srcm (nm, os)).map cmD ++ [ocD nm o])] := fun t o y1 y2 ho => by
      refine ⟨sz' (by rw [srcm_len]; show os.length ≤ _; omega), ?_⟩
      rw [show (srcm (nm, os)).map cmD ++ [ocD nm o] = (srcm (nm, os ++ [o])).map cmD by simp [srcm]; cases o <;> rfl]
      rw [hIa]; exact ⟨t, os ++ [o], by simp [h1], fun n hn => by rcases List.mem_append.mp hn with h | h; exact h2 n h; exact ho n (List.mem_singleton.mp h).symm, by first | rfl | (simp; done), _, _, rfl⟩
    walk_at "QD"
    refine i__law_ladle (by decide) fun u u0 u1 t => ?_
    walk_at "QD"
    refine i__law_ladle (by decide) fun v v0 v1 t => ?_
    walk_at "QD"
    refine i__law_habit (by decide) (by decide) fun w w0 w1 t => ?_
    walk_at "QD"
    obtain ⟨n, e, n0, n1⟩ : ∃ n : Int, atI [D.int u, .int 7, .int 999, .int 0, .int v] w = some (.int n) ∧ 0 ≤ n ∧ n ≤ 999 := by
      rcases (by omega : w = 0 ∨ w = 1 ∨ w = 2 ∨ w = 3 ∨ w = 4) with rfl | rfl | rfl | rfl | rfl <;> exact ⟨_, rfl, by omega, by omega⟩
    rw [e]
    walk_at "QD"
    refine i__law_ladle (by decide) fun x x0 x1 t => ?_
    walk_at "QD"
    refine i__law_habit (by decide) (by decide) fun y y0 y1 t => ?_
    walk_at "QD"
    by_cases c : x < 1 + y
    · rw [if_pos c]
      exact add t none _ _ (fun _ h => by cases h)
    · rw [if_neg c]
      exact add t (some n) _ _ (fun m h => by cases h; exact ⟨n0, n1⟩)
  · rw [hIa] at hi; obtain ⟨t, os, h1, h2, rfl, x0, x1, rfl⟩ := hi
    walk_at "QD"
    exact hR os (by rw [rngD_len] at h1; omega) h2 t
theorem i__law_silent {t : TrS} {nm : Str} {most : Nat} {R : Rv → Mem → Prop} (hm : 1 ≤ most ∧ most ≤ 100) (k : ∀ (r : List (Option Int)), (r.length ≤ most) → (NumO r) → ∀ t' : TrS, R (.d (rcD (srcm (nm, r)))) [t'.m0, t'.m1, t'.m2, t'.m3]) : c__law_silent [.o 3, .d (.str nm), .d (.int most)] [t.m0, t.m1, t.m2, t.m3] R := ⟨t, nm, most, rfl, rfl, hm, k⟩
end Lk26
set_option Elab.async false
set_option linter.all false
set_option maxRecDepth 100000
set_option maxHeartbeats 4000000
namespace Lk26
open PySem PySem.Spec PyProof.Rows L2 Dw
local macro_rules | `(tactic| walk_at "CALL") => `(tactic| first | fail)
def c__law_done : Ct := fun aa mm R => ∃ (p : SR) (ts : List Int), aa = [.d (rcD (srcm p)), .d (.tup (ts.map .int))] ∧ mm = [] ∧ (p.2.length ≤ 1000 ∧ ts.length ≤ 1000) ∧ (R (.d (.tup ((doneO p.2 ts).map .int))) [])
theorem ln__law_done : ∀ rs M R, c__law_done rs M R → rs.length = 2 ∧ M.length = 0 := by
  rintro aa mm R ⟨p, ts, rfl, rfl, _⟩; exact ⟨rfl, rfl⟩
set_option maxHeartbeats 8000000 in
theorem ok__law_done {P : Program} {w : World} {K : PySem.W.Frag} {mg : Str → Option Value} {base : Heap} (T : Tx K mg) : FnOk P w K mg base CX0 1 T.a__law_done T.fd__law_done ["recipe", "things"] (spD K c__law_done) := by
  refine fnD (n0 := 0) T.F__law_done sc__law_done ln__law_done fun cdv A outer s H E hr => ⟨_, (qss_cons (qs_set (i := 2) sc__law_done.nd rfl (.inl rfl) (qe_list (by rfl) T.n_list (qa_cons (qv 1) qa_nil))) (qss_cons (qs_for PassesOwn.never rfl (qi_tup (qv 0)) (qg_name (i := 3) sc__law_done.nd rfl (by first | exact .inl rfl | exact .inr rfl)) (qss_one (qs_if (qt_eq (u64 hr) (qe_ix (qv 3) qe_int) qe_str) (qss_one (qs_set (i := 2) sc__law_done.nd rfl (.inl rfl) (qe_sorted (u70 hr) (by rfl) T.n_sorted (qa_cons (qe_add (qv 2) (qe_lst (qa_cons (qe_ix (qv 3) qe_int) qa_nil))) qa_nil)))) (qss_one (qs_set (i := 2) sc__law_done.nd rfl (.inl rfl) (qe_sl (qv 2) (qo_some qe_int) qo_none)))))) (qss_one (qs_ret (qe_tuple (by rfl) T.n_tuple (qa_cons (qv 2) qa_nil)))))), fun rs M R h => ?_⟩
  obtain ⟨p, ts, rfl, rfl, hz, hR⟩ := h
  simp_all only [rcD]
  obtain ⟨Ia, hIa⟩ : ∃ I : Nat → Env' → Mem → Prop, I = fun i env M => ∃ (h : List Int), (h = doneO (p.2.take i) ts) ∧ M = [] ∧ ∃ (x3 : Option Rv), env = [some (.d (rcD (srcm p))), some (.d (.tup (ts.map .int))), some (.d (.lst (h.map .int))), x3] := ⟨_, rfl⟩
  refine for_0 Ia (by rw [hIa]; exact ⟨ts, rfl, rfl, _, rfl⟩) (fun i d env M hd hi => ?_) (fun env M hi => ?_)
  · rw [hIa] at hi; obtain ⟨h, h1, rfl, x0, rfl⟩ := hi
    obtain ⟨o, ho, rfl⟩ := srcm_get hd
    have e : doneO (p.2.take (i + 1)) ts = stepO (doneO (p.2.take i) ts) o := by rw [take_get ho, doneO, List.foldl_append]; rfl
    have hz := doneO_len (p.2.take i) ts
    rw [List.length_take, ← h1] at hz
    cases o with
    | none =>
      simp_all only [ocD]
      rw [show Dw.cutD (h.map D.int) (some 1) none = (h.drop 1).map .int by rw [cut_map, show (1 : Int) = ((1 : Nat) : Int) from rfl, cut_drop]]
      rw [hIa]; exact ⟨h.drop 1, by rw [e, h1]; rfl, by first | rfl | (simp; done), _, rfl⟩
    | some n =>
      simp_all only [ocD]
      refine ⟨_, addM_l1 (by omega), _, isI_sl _, ?_⟩
      rw [hIa]; exact ⟨isI (h ++ [n]), by rw [e, h1]; rfl, by first | rfl | (simp; done), _, rfl⟩
  · rw [hIa] at hi; obtain ⟨h, h1, rfl, x0, rfl⟩ := hi
    walk_at "QD"
    rw [List.length_map, srcm_len, List.take_length] at h1
    rw [← h1] at hR
    exact hR
theorem i__law_done {p : SR} {ts : List Int} {R : Rv → Mem → Prop} (hz : p.2.length ≤ 1000 ∧ ts.length ≤ 1000) (k : R (.d (.tup ((doneO p.2 ts).map .int))) []) : c__law_done [.d (rcD (srcm p)), .d (.tup (ts.map .int))] [] R := ⟨p, ts, rfl, rfl, hz, k⟩
end Lk26
set_option Elab.async false
set_option linter.all false
set_option maxRecDepth 100000
set_option maxHeartbeats 4000000
namespace Lk26
open PySem PySem.Spec PyProof.Rows L2 Dw
local macro_rules | `(tactic| walk_at "CALL") => `(tactic| first | fail)
def c__law_joined : Ct := fun aa mm R => ∃ (a : Lt) (b : Lt), aa = [.d (ltD a), .d (ltD b)] ∧ mm = [] ∧ (szL a + szL b ≤ 3000) ∧ (R (.d (ltD (joinL a b))) [])
theorem ln__law_joined : ∀ rs M R, c__law_joined rs M R → rs.length = 2 ∧ M.length = 0 := by
  rintro aa mm R ⟨a, b, rfl, rfl, _⟩; exact ⟨rfl, rfl⟩
set_option maxHeartbeats 8000000 in
theorem ok__law_joined {P : Program} {w : World} {K : PySem.W.Frag} {mg : Str → Option Value} {base : Heap} (T : Tx K mg) : FnOk P w K mg base CX0 1 T.a__law_joined T.fd__law_joined ["one", "other"] (spD K c__law_joined) := by
  refine fnD (n0 := 0) T.F__law_joined sc__law_joined ln__law_joined fun cdv A outer s H E hr => ⟨_, (qss_cons (qs_asg (qv 0) (qg_tupn (n := 3) rfl (qgs_cons (qg_name (i := 2) sc__law_joined.nd rfl (by first | exact .inl rfl | exact .inr rfl)) (qgs_cons (qg_name (i := 3) sc__law_joined.nd rfl (by first | exact .inl rfl | exact .inr rfl)) (qgs_cons (qg_name (i := 4) sc__law_joined.nd rfl (by first | exact .inl rfl | exact .inr rfl)) qgs_nil))))) (qss_cons (qs_set (i := 5) sc__law_joined.nd rfl (.inl rfl) (qe_sorted (u70 hr) (by rfl) T.n_sorted (qa_cons (qe_add (qv 4) (qe_ix (qv 1) qe_int)) qa_nil))) (qss_one (qs_ret (qe_tup (qa_cons (qe_tuple (by rfl) T.n_tuple (qa_cons (qe_sorted (u70 hr) (by rfl) T.n_sorted (qa_cons (qe_add (qv 2) (qe_tuple (by rfl) T.n_tuple (qa_cons (qe_sl (qv 5) qo_none (qo_some (qe_ix (qv 1) qe_int))) qa_nil))) qa_nil)) qa_nil)) (qa_cons (qe_add (qv 3) (qe_ix (qv 1) qe_int)) (qa_cons (qe_tuple (by rfl) T.n_tuple (qa_cons (qe_sorted (u70 hr) (by rfl) T.n_sorted (qa_cons (qe_add (qe_tuple (by rfl) T.n_tuple (qa_cons (qe_sl (qv 5) (qo_some (qe_ix (qv 1) qe_int)) qo_none) qa_nil)) (qe_ix (qv 1) qe_int)) qa_nil)) qa_nil)) qa_nil)))))))), fun rs M R h => ?_⟩
  obtain ⟨a, b, rfl, rfl, hz, hR⟩ := h
  have ha := szL_parts a
  have hb := szL_parts b
  simp_all only [ltD]
  exact ⟨_, addM_t (by omega), _, isI_st _, _, slL_hi, _, fTupL, _, addM_t (by simp only [isI_len,List.length_append,List.length_take]; omega),_,isI_st _,_,fTupL,_,slL_lo,_,fTupL,_,addM_t (by simp only [isI_len,List.length_append,List.length_drop]; omega), _, isI_st _, _, fTupL, hR⟩
theorem i__law_joined {a : Lt} {b : Lt} {R : Rv → Mem → Prop} (hz : szL a + szL b ≤ 3000) (k : R (.d (ltD (joinL a b))) []) : c__law_joined [.d (ltD a), .d (ltD b)] [] R := ⟨a, b, rfl, rfl, hz, k⟩
end Lk26
set_option Elab.async false
set_option linter.all false
set_option maxRecDepth 100000
set_option maxHeartbeats 4000000
namespace Lk26
open PySem PySem.Spec PyProof.Rows L2 Dw
local macro_rules | `(tactic| walk_at "CALL") => `(tactic| first | (refine i__law_joined (by walk_at "SIDE") ?_; walk_at "QS"; walk_at "GO"))
def c__law_lots : Ct := fun aa mm R => ∃ (p : SR), aa = [.d (rcD (srcm p))] ∧ mm = [] ∧ (p.2.length ≤ 1000) ∧ (R (.d (ltD (lotsL p.2))) [])
theorem ln__law_lots : ∀ rs M R, c__law_lots rs M R → rs.length = 1 ∧ M.length = 0 := by
  rintro aa mm R ⟨p, rfl, rfl, _⟩; exact ⟨rfl, rfl⟩
set_option maxHeartbeats 8000000 in
theorem ok__law_lots {P : Program} {w : World} {K : PySem.W.Frag} {mg : Str → Option Value} {base : Heap} (T : Tx K mg) : FnOk P w K mg base CX0 2 T.a__law_lots T.fd__law_lots ["recipe"] (spD K c__law_lots) := by
  refine fnD (n0 := 0) T.F__law_lots sc__law_lots ln__law_lots fun cdv A outer s H E hr => ⟨_, (qss_cons (qs_set (i := 1) sc__law_lots.nd rfl (.inl rfl) (qe_tup (qa_cons (qe_tup qa_nil) (qa_cons qe_int (qa_cons (qe_tup qa_nil) qa_nil))))) (qss_cons (qs_for PassesOwn.never rfl (qi_tup (qv 0)) (qg_name (i := 2) sc__law_lots.nd rfl (by first | exact .inl rfl | exact .inr rfl)) (qss_one (qs_set (i := 1) sc__law_lots.nd rfl (.inl rfl) (qe_call (ok__law_joined T) (hr.mono (by decide)) (by rfl) T.g__law_joined T.F__law_joined.kp (b__law_joined T) (qa_cons (qv 1) (qa_cons (qe_if (qt_eq (u64 hr) (qe_ix (qv 2) qe_int) qe_str) (qe_tup (qa_cons (qe_tup qa_nil) (qa_cons qe_int (qa_cons (qe_tup (qa_cons (qe_ix (qv 2) qe_int) qa_nil)) qa_nil)))) (qe_tup (qa_cons (qe_tup qa_nil) (qa_cons qe_int (qa_cons (qe_tup qa_nil) qa_nil))))) qa_nil)))))) (qss_one (qs_ret (qv 1))))), fun rs M R h => ?_⟩
  obtain ⟨p, rfl, rfl, hl, hR⟩ := h
  simp_all only [rcD]
  obtain ⟨Ia, hIa⟩ : ∃ I : Nat → Env' → Mem → Prop, I = fun i env M => ∃ (l : Lt), (l = lotsL (p.2.take i)) ∧ M = [] ∧ ∃ (x2 : Option Rv), env = [some (.d (rcD (srcm p))), some (.d (ltD l)), x2] := ⟨_, rfl⟩
  refine for_0 Ia (by rw [hIa]; exact ⟨l0, rfl, rfl, _, rfl⟩) (fun i d env M hd hi => ?_) (fun env M hi => ?_)
  · rw [hIa] at hi; obtain ⟨l, h1, rfl, x0, rfl⟩ := hi
    obtain ⟨o, ho, rfl⟩ := srcm_get hd
    have e : lotsL (p.2.take (i + 1)) = joinL (lotsL (p.2.take i)) (oneL o) := by rw [take_get ho, lotsL, List.foldl_append]; rfl
    have hz := szL_lots (p.2.take i)
    rw [List.length_take, ← h1] at hz
    cases o with
    | none =>
      simp_all only [ocD]
      refine i__law_joined (b := oneL none) (by rw [szL_one]; omega) ?_
      walk_at "QD"
      rw [hIa]; exact ⟨joinL l (oneL none), by rw [e, h1], by first | rfl | (simp; done), _, rfl⟩
    | some n =>
      simp_all only [ocD]
      refine i__law_joined (b := oneL (some n)) (by rw [szL_one]; omega) ?_
      walk_at "QD"
      rw [hIa]; exact ⟨joinL l (oneL (some n)), by rw [e, h1], by first | rfl | (simp; done), _, rfl⟩
  · rw [hIa] at hi; obtain ⟨l, h1, rfl, x0, rfl⟩ := hi
    walk_at "QD"
    rw [List.length_map, srcm_len, List.take_length] at h1
    rw [← h1] at hR
    exact hR
theorem i__law_lots {p : SR} {R : Rv → Mem → Prop} (hl : p.2.length ≤ 1000) (k : R (.d (ltD (lotsL p.2))) []) : c__law_lots [.d (rcD (srcm p))] [] R := ⟨p, rfl, rfl, hl, k⟩
end Lk26
set_option Elab.async false
set_option linter.all false
set_option maxRecDepth 100000
set_option maxHeartbeats 4000000
namespace Lk26
open PySem PySem.Spec PyProof.Rows L2 Dw
local macro_rules | `(tactic| walk_at "CALL") => `(tactic| first | fail)
def c__law_recipe : Ct := fun aa mm R => ∃ (a : Lt) (nm : Str), aa = [.d (ltD a), .d (.str nm)] ∧ mm = [] ∧ (szL a ≤ 900) ∧ (R (.d (rcD (srcm (nm, recO a)))) [])
theorem ln__law_recipe : ∀ rs M R, c__law_recipe rs M R → rs.length = 2 ∧ M.length = 0 := by
  rintro aa mm R ⟨a, nm, rfl, rfl, _⟩; exact ⟨rfl, rfl⟩
set_option maxHeartbeats 8000000 in
theorem ok__law_recipe {P : Program} {w : World} {K : PySem.W.Frag} {mg : Str → Option Value} {base : Heap} (T : Tx K mg) : FnOk P w K mg base CX0 1 T.a__law_recipe T.fd__law_recipe ["lots", "name"] (spD K c__law_recipe) := by
  refine fnD (n0 := 0) T.F__law_recipe sc__law_recipe ln__law_recipe fun cdv A outer s H E hr => ⟨_, (qss_cons (qs_asg (qv 0) (qg_tupn (n := 3) rfl (qgs_cons (qg_name (i := 2) sc__law_recipe.nd rfl (by first | exact .inl rfl | exact .inr rfl)) (qgs_cons (qg_name (i := 3) sc__law_recipe.nd rfl (by first | exact .inl rfl | exact .inr rfl)) (qgs_cons (qg_name (i := 4) sc__law_recipe.nd rfl (by first | exact .inl rfl | exact .inr rfl)) qgs_nil))))) (qss_one (qs_ret (qe_add (qe_add (qe_tuple (by rfl) T.n_tuple (qa_cons (qe_lc rfl sc__law_recipe.nd (qi_tup (qv 2)) (blkOk_by (own := [("number", 5)]) (N := ["lots", "name", "first", "drops", "last", "number"]) (sc := defScope s__law_recipe) (by decide +kernel)) (by decide) (fun _ _ _ _ _ => (qg_name (i := 5) sc__law_recipe.nd rfl (by first | exact .inl rfl | exact .inr rfl))) (fun _ _ _ _ _ => qts_nil) (fun _ _ _ _ _ => (qe_tup (qa_cons qe_str (qa_cons (qv 1) (qa_cons (qv 5) qa_nil)))))) qa_nil)) (qe_mul (qe_tup (qa_cons (qe_tup (qa_cons qe_str (qa_cons (qv 1) qa_nil))) qa_nil)) (qv 3))) (qe_tuple (by rfl) T.n_tuple (qa_cons (qe_lc rfl sc__law_recipe.nd (qi_tup (qv 4)) (blkOk_by (own := [("number", 5)]) (N := ["lots", "name", "first", "drops", "last", "number"]) (sc := defScope s__law_recipe) (by decide +kernel)) (by decide) (fun _ _ _ _ _ => (qg_name (i := 5) sc__law_recipe.nd rfl (by first | exact .inl rfl | exact .inr rfl))) (fun _ _ _ _ _ => qts_nil) (fun _ _ _ _ _ => (qe_tup (qa_cons qe_str (qa_cons (qv 1) (qa_cons (qv 5) qa_nil)))))) qa_nil)))))), fun rs M R h => ?_⟩
  obtain ⟨a, nm, rfl, rfl, hz, hR⟩ := h
  have ha := szL_parts a
  have e : rcD (srcm (nm, recO a)) = .tup ((a.1.map (fun n => D.tup [.str (Str.ofString "put"), .str nm, .int n]) ++ List.replicate a.2.1 (.tup [.str (Str.ofString "drop"), .str nm])) ++ a.2.2.map (fun n => D.tup [.str (Str.ofString "put"), .str nm, .int n])) := by
    simp only [rcD,srcm,recO,List.map_append,List.map_map,List.map_replicate]
    rfl
  rw [e] at hR
  simp_all only [ltD]
  have one : ∀ ns : List Int, ∀ (env : Env') (Q : List D → Mem → Prop), env[1]? = some (some (.d (.str nm))) → env.length = 6 → ns.length ≤ 3000 → Q (ns.map fun n => D.tup [.str (Str.ofString "put"), .str nm, .int n]) [] → wLcL (gN 5) wYes (wTup (wCons (wC (.str (Str.ofString "put"))) (wCons (wVar 1) (wCons (wVar 5) wNil)))) env (ns.map .int) [] [] Q := fun ns env Q h1 h2 h3 hQ => by
    refine lc_map' D.int (fun n => D.tup [.str (Str.ofString "put"), .str nm, .int n]) ns (fun n hn G hG => ?_) (by simpa using hQ)
    obtain ⟨e0, e1, e2, e3, e4, e5, rfl⟩ : ∃ e0 e1 e2 e3 e4 e5, env = [e0, e1, e2, e3, e4, e5] := by
      match env, h2 with
      | [e0, e1, e2, e3, e4, e5], _ => exact ⟨_, _, _, _, _, _, rfl⟩
    cases h1
    walk_at "QD"
    exact hG
  refine ⟨sz (by omega), one _ _ _ rfl rfl (by omega) ?_⟩
  refine ⟨_, by rw [dMul_t, if_pos (by simp; omega)], ?_⟩
  have er : (List.replicate (Int.toNat (a.2.1 : Int)) [D.tup [.str (Str.ofString "drop"), .str nm]]).flatten = List.replicate a.2.1 (D.tup [.str (Str.ofString "drop"), .str nm]) := by
    rw [Int.toNat_natCast]; generalize a.2.1 = k
    induction k with
    | zero => rfl
    | succ k ih => rw [List.replicate_succ, List.flatten_cons, ih, List.replicate_succ]; rfl
  rw [er, dAdd_t, if_pos (sz (by simp; omega))]
  refine ⟨_, rfl, sz (by omega), one _ _ _ rfl rfl (by omega) ?_⟩
  rw [dAdd_t, if_pos (sz (by simp; omega))]
  exact ⟨_, rfl, hR⟩
theorem i__law_recipe {a : Lt} {nm : Str} {R : Rv → Mem → Prop} (hz : szL a ≤ 900) (k : R (.d (rcD (srcm (nm, recO a)))) []) : c__law_recipe [.d (ltD a), .d (.str nm)] [] R := ⟨a, nm, rfl, rfl, hz, k⟩
end Lk26
set_option Elab.async false
set_option linter.all false
set_option maxRecDepth 100000
set_option maxHeartbeats 4000000
namespace Lk26
open PySem PySem.Spec PyProof.Rows L2 Dw
local macro_rules | `(tactic| walk_at "CALL") => `(tactic| first | fail)
def c__law_things : Ct := fun aa mm R => ∃ (t : TrS) (most : Nat), aa = [.o 3, .d (.int most)] ∧ mm = [t.m0, t.m1, t.m2, t.m3] ∧ (1 ≤ most ∧ most ≤ 100) ∧ (∀ (ts : List Int), (ts.length ≤ most) → (Asc ts) → ∀ t' : TrS, R (.d (.tup (ts.map .int))) [t'.m0, t'.m1, t'.m2, t'.m3])
theorem ln__law_things : ∀ rs M R, c__law_things rs M R → rs.length = 2 ∧ M.length = 4 := by
  rintro aa mm R ⟨t, most, rfl, rfl, _⟩; exact ⟨rfl, rfl⟩
set_option maxHeartbeats 8000000 in
theorem ok__law_things {P : Program} {w : World} {K : PySem.W.Frag} {mg : Str → Option Value} {base : Heap} (T : Tx K mg) : FnOk P w K mg base CX0 3 T.a__law_things T.fd__law_things ["trough", "most"] (spD K c__law_things) := by
  refine fnD (n0 := 4) T.F__law_things sc__law_things ln__law_things fun cdv A outer s H E hr => ⟨_, (qss_cons (qs_set (i := 2) sc__law_things.nd rfl (.inl rfl) (qe_max2 rfl (by rfl) T.n_max (qa_cons (qe_callG 4 (ok__law_habit T) (hr.mono (by decide)) (by rfl) T.g__law_habit T.F__law_habit.kp (b__law_habit T) (qa_cons (qv 0) (qa_cons qe_int (qa_cons (qe_add (qv 1) qe_int) qa_nil)))) (qa_cons (qe_callG 4 (ok__law_ladle T) (hr.mono (by decide)) (by rfl) T.g__law_ladle T.F__law_ladle.kp (b__law_ladle T) (qa_cons (qv 0) (qa_cons (qe_add (qe_fdiv (qv 1) qe_int) qe_int) qa_nil))) qa_nil)))) (qss_cons (qs_setLc (i := 3) rfl sc__law_things.nd rfl rfl (sw_true rfl rfl rfl (by decide +kernel)) (qi_range1 (by rfl) T.n_range (qa_cons (qv 2) qa_nil)) (blkOk_by (own := [("lap", 4)]) (N := ["trough", "most", "many", "rows", "lap"]) (sc := defScope s__law_things) (by decide +kernel)) (by decide) (fun _ _ _ _ _ => (qg_name (i := 4) sc__law_things.nd rfl (by first | exact .inl rfl | exact .inr rfl))) (fun _ _ _ _ _ => qts_nil) (fun _ _ _ _ _ => (qe_ix (qe_tup (qa_cons (qe_callG 4 (ok__law_ladle T) (hr.mono (by decide)) (by rfl) T.g__law_ladle T.F__law_ladle.kp (b__law_ladle T) (qa_cons (qv 0) (qa_cons qe_int qa_nil))) (qa_cons qe_int (qa_cons (qe_neg qe_int) (qa_cons qe_int (qa_cons (qe_sub (qe_callG 4 (ok__law_ladle T) (hr.mono (by decide)) (by rfl) T.g__law_ladle T.F__law_ladle.kp (b__law_ladle T) (qa_cons (qv 0) (qa_cons qe_int qa_nil))) qe_int) qa_nil)))))) (qe_callG 4 (ok__law_habit T) (hr.mono (by decide)) (by rfl) T.g__law_habit T.F__law_habit.kp (b__law_habit T) (qa_cons (qv 0) (qa_cons qe_int (qa_cons qe_int qa_nil))))))) (qss_one (qs_ret (qe_tuple (by rfl) T.n_tuple (qa_cons (qe_sorted (u70 hr) (by rfl) T.n_sorted (qa_cons (qv 3) qa_nil)) qa_nil)))))), fun rs M R h => ?_⟩
  obtain ⟨t, most, rfl, rfl, hm, hR⟩ := h
  walk_at "QD"
  refine i__law_habit (by omega) (by omega) fun r r0 r1 t => ?_
  walk_at "QD"
  refine i__law_ladle (by omega) fun s s0 s1 t => ?_
  walk_at "QD"
  have hk : 0 ≤ max r s ∧ max r s ≤ most := by omega
  generalize max r s = k at hk ⊢
  refine ⟨by omega, by omega, sz (by rw [rngD_len]; omega), ?_⟩
  refine lc_all D.int (fun _ _ => True) Jt ⟨t, rfl⟩ (fun i d M hd hJ G hG => ?_) (fun ns M hl _ hJ => ?_)
  · obtain ⟨hi, rfl⟩ := rngD_get hd
    obtain ⟨t, rfl⟩ := hJ
    walk_at "QD"
    refine i__law_ladle (by decide) fun u u0 u1 t => ?_
    walk_at "QD"
    refine i__law_ladle (by decide) fun v v0 v1 t => ?_
    walk_at "QD"
    refine i__law_habit (by decide) (by decide) fun w w0 w1 t => ?_
    walk_at "QD"
    obtain ⟨n, e⟩ : ∃ n : Int, atI [D.int u, .int 7, .int (-1000), .int 1000, .int (v - 1000)] w = some (.int n) := by
      rcases (by omega : w = 0 ∨ w = 1 ∨ w = 2 ∨ w = 3 ∨ w = 4) with rfl | rfl | rfl | rfl | rfl <;> exact ⟨_, rfl⟩
    rw [e]
    walk_at "QD"
    exact hG n _ trivial ⟨t, rfl⟩
  · obtain ⟨t, rfl⟩ := hJ
    rw [rngD_len] at hl
    refine ⟨_, isI_sl ns, ?_⟩
    walk_at "QD"
    exact hR (isI ns) (by rw [isI_len]; omega) (isI_asc ns) t
theorem i__law_things {t : TrS} {most : Nat} {R : Rv → Mem → Prop} (hm : 1 ≤ most ∧ most ≤ 100) (k : ∀ (ts : List Int), (ts.length ≤ most) → (Asc ts) → ∀ t' : TrS, R (.d (.tup (ts.map .int))) [t'.m0, t'.m1, t'.m2, t'.m3]) : c__law_things [.o 3, .d (.int most)] [t.m0, t.m1, t.m2, t.m3] R := ⟨t, most, rfl, rfl, hm, k⟩
end Lk26
set_option Elab.async false
set_option linter.all false
set_option maxRecDepth 100000
set_option maxHeartbeats 4000000
namespace Lk26
open PySem PySem.Spec PyProof.Rows L2 Dw
local macro_rules | `(tactic| walk_at "CALL") => `(tactic| first | fail)
def c__law_rising : Ct := fun aa mm R => ∃ (ns : List Int) (q : Nat), aa = [.d (.tup (ns.map .int)), .d (.int q)] ∧ mm = [] ∧ (ns ∈ NS) ∧ (q ≤ 5) ∧ (R (.d (.lst ((lvlF ns q).map rwD))) [])
theorem ln__law_rising : ∀ rs M R, c__law_rising rs M R → rs.length = 2 ∧ M.length = 0 := by
  rintro aa mm R ⟨ns, q, rfl, rfl, _⟩; exact ⟨rfl, rfl⟩
set_option maxHeartbeats 8000000 in
theorem ok__law_rising {P : Program} {w : World} {K : PySem.W.Frag} {mg : Str → Option Value} {base : Heap} (T : Tx K mg) : FnOk P w K mg base CX0 1 T.a__law_rising T.fd__law_rising ["numbers", "many"] (spD K c__law_rising) := by
  refine fnD (n0 := 0) T.F__law_rising sc__law_rising ln__law_rising fun cdv A outer s H E hr => ⟨_, (qss_cons (qs_set (i := 2) sc__law_rising.nd rfl (.inl rfl) (qe_lst (qa_cons (qe_tup qa_nil) qa_nil))) (qss_cons (qs_for PassesOwn.never rfl (qi_range1 (by rfl) T.n_range (qa_cons (qv 1) qa_nil)) (qg_name (i := 3) sc__law_rising.nd rfl (by first | exact .inl rfl | exact .inr rfl)) (qss_cons (qs_set (i := 4) sc__law_rising.nd rfl (.inl rfl) (qe_lst qa_nil)) (qss_cons (qs_for PassesOwn.never rfl (qi_list (qv 2)) (qg_name (i := 5) sc__law_rising.nd rfl (by first | exact .inl rfl | exact .inr rfl)) (qss_one (qs_set (i := 4) sc__law_rising.nd rfl (.inl rfl) (qe_add (qv 4) (qe_lc rfl sc__law_rising.nd (qi_tup (qv 0)) (blkOk_by (own := [("number", 6)]) (N := ["numbers", "many", "rows", "lap", "more", "row", "number"]) (sc := defScope s__law_rising) (by decide +kernel)) (by decide) (fun _ _ _ _ _ => (qg_name (i := 6) sc__law_rising.nd rfl (by first | exact .inl rfl | exact .inr rfl))) (fun _ _ _ _ _ => (qts_one (QW.t (qw_or (qt_eq (u64 hr) (qe_len (by rfl) T.n_len (qa_cons (qv 5) qa_nil)) qe_int) (qw_or1 (qt_le (qe_ix (qv 5) (qe_neg qe_int)) (qv 6))))))) (fun _ _ _ _ _ => (qe_add (qv 5) (qe_tup (qa_cons (qv 6) qa_nil))))))))) (qss_one (qs_set (i := 2) sc__law_rising.nd rfl (.inl rfl) (qv 4)))))) (qss_one (qs_ret (qv 2))))), fun rs M R h => ?_⟩
  obtain ⟨ns, q, rfl, rfl, hn, hk, hR⟩ := h
  walk_at "QD"
  refine ⟨by omega, by omega, ?_⟩
  rw [show D.lst [.tup []] = .lst ([([] : List Int)].map rwD) from rfl]
  obtain ⟨Ie, hIe⟩ : ∃ I : Nat → Env' → Mem → Prop, I = fun i env M => ∃ (ls : List (List Int)), (i ≤ q) ∧ (ls = lvlF ns i) ∧ M = [] ∧ ∃ (x3 : Option Rv) (x4 : Option Rv) (x5 : Option Rv) (x6 : Option Rv), env = [some (.d (.tup (ns.map .int))), some (.d (.int q)), some (.d (.lst (ls.map rwD))), x3, x4, x5, x6] := ⟨_, rfl⟩
  refine for_0 Ie (by rw [hIe]; exact ⟨[[]], by omega, rfl, rfl, _, _, _, _, rfl⟩) (fun i d env M hd hi => ?_) (fun env M hi => ?_)
  · rw [hIe] at hi; obtain ⟨ls, g0, g2, rfl, x0, x1, x2, x3, rfl⟩ := hi
    obtain ⟨hi, rfl⟩ := rngD_get hd
    have hiq : i < q := by simpa using hi
    obtain ⟨m, hmi⟩ : ∃ m, m = i := ⟨i, rfl⟩
    rw [← hmi] at g2 hiq
    have hz1 : ls.length ≤ 1000 := lvl_le hn (by omega) g2
    have hz2 : (lvlF ns (m + 1)).length ≤ 1000 := lvl_le hn (by omega) rfl
    have hnl := NS_len ns hn
    walk_at "QD"
    rw [show D.lst [] = .lst (([] : List (List Int)).map rwD) from rfl]
    obtain ⟨If, hIf⟩ : ∃ I : Nat → Env' → Mem → Prop, I = fun i env M => ∃ (ms : List (List Int)), (ms = (ls.take i).flatMap (nxtF ns)) ∧ M = [] ∧ ∃ (x3 : Option Rv) (x5 : Option Rv) (x6 : Option Rv), env = [some (.d (.tup (ns.map .int))), some (.d (.int q)), some (.d (.lst (ls.map rwD))), x3, some (.d (.lst (ms.map rwD))), x5, x6] := ⟨_, rfl⟩
    refine for_0 If (by rw [hIf]; exact ⟨[], rfl, rfl, _, _, _, rfl⟩) (fun i d env M hd hi => ?_) (fun env M hi => ?_)
    · rw [hIf] at hi; obtain ⟨ms, g3, rfl, x0, x1, x2, rfl⟩ := hi
      obtain ⟨row, hr, rfl⟩ := map_get hd
      have hrl : row.length = m := lvl_row (g2 ▸ List.mem_of_getElem? hr)
      have hms : ms.length ≤ 1000 := by
        have := fm_take (nxtF ns) ls i
        rw [← g3] at this
        have e2 : (ls.flatMap (nxtF ns)).length = (lvlF ns (m + 1)).length := by rw [g2]; rfl
        omega
      rw [rwD]
      walk_at "QD"
      refine ⟨sz (by omega), ?_⟩
      refine lc_mapA D.int (fun x => decide (row = [] ∨ row.getLastD 0 ≤ x)) (fun x => rwD (row ++ [x])) ns (fun x hx G acc q1 q2 => ?_) ?_
      · rcases List.eq_nil_or_concat row with h | ⟨l, y, h⟩
        · subst h
          walk_at "QD"
          exact ⟨_, rfl, q1 (by simp)⟩
        · rw [List.concat_eq_append] at h
          subst h
          have ga : atI (l ++ [y]) (-1) = some y := atI_last
          have gl : ((l ++ [y]).length : Int) = l.length + 1 := by simp
          simp_all only [gl]
          rw [if_neg (by omega)]
          simp_all only [ga]
          rw [addM_t1 (f := D.int) (a := l ++ [y]) (x := x) (by omega)]
          refine lc_fin (fun h => ⟨_, rfl, q1 ?_⟩) (fun h => q2 ?_)
          · simpa using h
          · simpa using h
      · rw [show ((ns.filter fun x => decide (row = [] ∨ row.getLastD 0 ≤ x)).map fun x => rwD (row ++ [x])) = (nxtF ns row).map rwD by rw [nxtF, List.map_map]; rfl, List.nil_append]
        have hnx : (nxtF ns row).length ≤ 5 := by rw [nxtF, List.length_map]; exact Nat.le_trans (List.length_filter_le _ _) hnl
        walk_at "QD"
        refine ⟨_, addM_l (by omega), ?_⟩
        rw [hIf]; exact ⟨ms ++ nxtF ns row, by rw [g3, take_get hr, List.flatMap_append]; simp, by first | rfl | (simp; done), _, _, _, rfl⟩
    · rw [hIf] at hi; obtain ⟨ms, g3, rfl, x0, x1, x2, rfl⟩ := hi
      rw [List.length_map, List.take_length] at g3
      walk_at "QD"
      subst hmi
      rw [hIe]; exact ⟨ms, by omega, by rw [g3, g2]; rfl, by first | rfl | (simp; done), _, _, _, _, rfl⟩
  · rw [hIe] at hi; obtain ⟨ls, g0, g2, rfl, x0, x1, x2, x3, rfl⟩ := hi
    walk_at "QD"
    rw [rngD_len] at *
    subst g2
    exact hR
theorem i__law_rising {ns : List Int} {q : Nat} {R : Rv → Mem → Prop} (hn : ns ∈ NS) (hk : q ≤ 5) (k : R (.d (.lst ((lvlF ns q).map rwD))) []) : c__law_rising [.d (.tup (ns.map .int)), .d (.int q)] [] R := ⟨ns, q, rfl, rfl, hn, hk, k⟩
end Lk26
set_option Elab.async false
set_option linter.all false
set_option maxRecDepth 100000
set_option maxHeartbeats 4000000
namespace Lk26
open PySem PySem.Spec PyProof.Rows L2 Dw
local macro_rules | `(tactic| walk_at "CALL") => `(tactic| first | fail)
def c__law_count : Ct := fun aa mm R => ∃ (m : Nat) (q : Nat), aa = [.d (.int m), .d (.int q)] ∧ mm = [] ∧ (m ≤ 5 ∧ q ≤ 5) ∧ (R (.d (.int (rsF m q))) [])
theorem ln__law_count : ∀ rs M R, c__law_count rs M R → rs.length = 2 ∧ M.length = 0 := by
  rintro aa mm R ⟨m, q, rfl, rfl, _⟩; exact ⟨rfl, rfl⟩
set_option maxHeartbeats 8000000 in
theorem ok__law_count {P : Program} {w : World} {K : PySem.W.Frag} {mg : Str → Option Value} {base : Heap} (T : Tx K mg) : FnOk P w K mg base CX0 1 T.a__law_count T.fd__law_count ["many", "most"] (spD K c__law_count) := by
  refine fnD (n0 := 0) T.F__law_count sc__law_count ln__law_count fun cdv A outer s H E hr => ⟨_, (qss_cons (qs_parN rfl (qa_cons (qe_repL (qa_cons qe_int qa_nil) (qv 0)) (qa_cons qe_int qa_nil)) (qn_cons (i := 2) sc__law_count.nd rfl (by first | exact .inl rfl | exact .inr rfl) (qn_cons (i := 3) sc__law_count.nd rfl (by first | exact .inl rfl | exact .inr rfl) qn_nil))) (qs_frz 0 (by decide) (qss_cons (qs_for PassesOwn.never rfl (qi_range1 (by rfl) T.n_range (qa_cons (qv 1) qa_nil)) (qg_name (i := 4) sc__law_count.nd rfl (by first | exact .inl rfl | exact .inr rfl)) (qss_cons (qs_set (i := 3) sc__law_count.nd rfl (.inl rfl) (qe_add (qv 3) (qe_sumB rfl (by rfl) T.n_sum (qa_cons (qv 2) qa_nil)))) (qss_one (qs_set (i := 2) sc__law_count.nd rfl (.inr rfl) (qe_lc rfl sc__law_count.nd (qi_range1 (by rfl) T.n_range (qa_cons (qv 0) qa_nil)) (blkOk_by (own := [("at", 5)]) (N := ["many", "most", "row", "total", "lap", "at"]) (sc := defScope s__law_count) (by decide +kernel)) (by decide) (fun _ _ _ _ _ => (qg_name (i := 5) sc__law_count.nd rfl (by first | exact .inl rfl | exact .inr rfl))) (fun _ _ _ _ _ => qts_nil) (fun _ _ _ _ _ => (qe_sumB rfl (by rfl) T.n_sum (qa_cons (qe_sl (qv 2) qo_none (qo_some (qe_add (qv 5) qe_int))) qa_nil)))))))) (qss_one (qs_ret (qv 3)))))), fun rs M R h => ?_⟩
  obtain ⟨m, q, rfl, rfl, hm, hR⟩ := h
  walk_at "QD"
  refine ⟨by omega, by omega, sz (by omega), by omega, by omega, ?_⟩
  rw [show (List.replicate (m : Int).toNat [D.int 1]).flatten = (cnRow m 0).map fun x : Nat => D.int x by
    rw [Int.toNat_natCast, cnRow]; generalize m = n; induction n with
    | zero => rfl
    | succ n ih => rw [List.replicate_succ, List.flatten_cons, ih, List.replicate_succ]; rfl]
  have cn := fun k (hk : k ≤ 5) => cn_ok ⟨m, by omega⟩ ⟨k, by omega⟩
  simp only at cn
  obtain ⟨Ie, hIe⟩ : ∃ I : Nat → Env' → Mem → Prop, I = fun i env M => ∃ (r : List Nat) (c : Nat), (i ≤ q) ∧ (r = cnRow m i) ∧ (c = cntF m i) ∧ M = [] ∧ ∃ (x4 : Option Rv) (x5 : Option Rv), env = [some (.d (.int m)), some (.d (.int q)), some (.d (.lst (r.map fun x : Nat => D.int x))), some (.d (.int c)), x4, x5] := ⟨_, rfl⟩
  refine for_0 Ie (by rw [hIe]; exact ⟨cnRow m 0, 1, by omega, rfl, rfl, rfl, _, _, rfl⟩) (fun i d env M hd hi => ?_) (fun env M hi => ?_)
  · rw [hIe] at hi; obtain ⟨r, c, g0, g1, g2, rfl, x0, x1, rfl⟩ := hi
    obtain ⟨hi, rfl⟩ := rngD_get hd
    have hiq : i < q := by simpa using hi
    have hc := cn i (by omega)
    rw [← g1] at hc
    walk_at "QD"
    refine ⟨_, sumN0 r, ?_⟩
    walk_at "QD"
    refine ⟨by omega, by omega, sz (by rw [rngD_len]; omega), ?_⟩
    rw [rng_eq, show (m : Int).toNat = m from rfl]
    refine lc_map' (fun i : Nat => D.int i) (fun i => .int ((r.take (i + 1)).sum : Nat)) (List.range m) (fun j hj G hG => ?_) ?_
    · walk_at "QD"
      rw [show ((j : Int) + 1) = ((j + 1 : Nat) : Int) by omega]
      simp_all only [cut_map, cut_take]
      rw [← List.map_take]
      exact ⟨_, sumN0 _, hG⟩
    · walk_at "QD"
      rw [show ((List.range m).map fun i => D.int ((r.take (i + 1)).sum : Nat)) = (cnRow m (i + 1)).map fun x : Nat => D.int x by rw [cnRow, List.map_map, g1]; rfl]
      rw [hIe]; exact ⟨cnRow m (i + 1), c + r.sum, by omega, rfl, by rw [g2, g1]; rfl, by first | rfl | (simp; done), _, _, rfl⟩
  · rw [hIe] at hi; obtain ⟨r, c, g0, g1, g2, rfl, x0, x1, rfl⟩ := hi
    walk_at "QD"
    rw [rngD_len, show (q : Int).toNat = q from rfl] at g2
    have h := (cn q (by omega)).1
    rw [g2, h]
    exact hR
theorem i__law_count {m : Nat} {q : Nat} {R : Rv → Mem → Prop} (hm : m ≤ 5 ∧ q ≤ 5) (k : R (.d (.int (rsF m q))) []) : c__law_count [.d (.int m), .d (.int q)] [] R := ⟨m, q, rfl, rfl, hm, k⟩
end Lk26
set_option Elab.async false
set_option linter.all false
set_option maxRecDepth 100000
set_option maxHeartbeats 4000000
namespace Lk26
open PySem PySem.Spec PyProof.Rows L2 Dw
local macro_rules | `(tactic| walk_at "CALL") => `(tactic| first | (refine i__law_count (by walk_at "SIDE") ?_; walk_at "QS"; walk_at "GO") | (refine i__law_rising (by walk_at "SIDE") (by walk_at "SIDE") ?_; walk_at "QS"; walk_at "GO"))
def c__law_all : Ct := fun aa mm R => ∃ (ns : List Int) (a : Nat) (n : Nat) (b : Nat), aa = [.d (.tup (ns.map .int)), .d (.int a), .d (.int n), .d (.int b)] ∧ mm = [] ∧ (ns ∈ NS ∧ ns.length ≤ 4) ∧ (a < 4 ∧ n < 5 ∧ b < 4) ∧ (R (.d (allD ns a n b)) [])
theorem ln__law_all : ∀ rs M R, c__law_all rs M R → rs.length = 4 ∧ M.length = 0 := by
  rintro aa mm R ⟨ns, a, n, b, rfl, rfl, _⟩; exact ⟨rfl, rfl⟩
set_option maxHeartbeats 8000000 in
theorem ok__law_all {P : Program} {w : World} {K : PySem.W.Frag} {mg : Str → Option Value} {base : Heap} (T : Tx K mg) : FnOk P w K mg base CX0 2 T.a__law_all T.fd__law_all ["numbers", "ahead", "drops", "behind"] (spD K c__law_all) := by
  refine fnD (n0 := 0) T.F__law_all sc__law_all ln__law_all fun cdv A outer s H E hr => ⟨_, (qss_cons (qs_set (i := 4) sc__law_all.nd rfl (.inl rfl) (qe_call (ok__law_count T) (hr.mono (by decide)) (by rfl) T.g__law_count T.F__law_count.kp (b__law_count T) (qa_cons (qe_len (by rfl) T.n_len (qa_cons (qv 0) qa_nil)) (qa_cons (qv 3) qa_nil)))) (qss_cons (qs_set (i := 5) sc__law_all.nd rfl (.inl rfl) qe_int) (qss_cons (qs_for PassesOwn.never rfl (qi_range1 (by rfl) T.n_range (qa_cons (qe_add (qe_min2 rfl (by rfl) T.n_min (qa_cons (qv 1) (qa_cons (qv 2) qa_nil))) qe_int) qa_nil)) (qg_name (i := 6) sc__law_all.nd rfl (by first | exact .inl rfl | exact .inr rfl)) (qss_one (qs_set (i := 5) sc__law_all.nd rfl (.inl rfl) (qe_add (qv 5) (qe_mul (qe_mul (qe_sub (qe_call (ok__law_count T) (hr.mono (by decide)) (by rfl) T.g__law_count T.F__law_count.kp (b__law_count T) (qa_cons (qe_len (by rfl) T.n_len (qa_cons (qv 0) qa_nil)) (qa_cons (qv 6) qa_nil))) (qe_if (qt_gt (qv 6) qe_int) (qe_call (ok__law_count T) (hr.mono (by decide)) (by rfl) T.g__law_count T.F__law_count.kp (b__law_count T) (qa_cons (qe_len (by rfl) T.n_len (qa_cons (qv 0) qa_nil)) (qa_cons (qe_sub (qv 6) qe_int) qa_nil))) qe_int)) (qe_add (qe_sub (qv 2) (qv 6)) qe_int)) (qv 4)))))) (qss_cons (qs_if (qt_gt (qv 5) qe_int) (qss_one (qs_ret qe_non)) qss_nil) (qss_cons (qs_par3 (i := 7) (j := 8) (l := 9) rfl sc__law_all.nd rfl rfl rfl (by decide) (by decide) (by decide) rfl rfl rfl (qa_cons (qe_lst qa_nil) (qa_cons (qe_lst qa_nil) (qa_cons (qe_lst qa_nil) qa_nil))) (by rfl)) (qss_cons (qs_for PassesOwn.never rfl (qi_range1 (by rfl) T.n_range (qa_cons (qe_add (qe_min2 rfl (by rfl) T.n_min (qa_cons (qv 1) (qa_cons (qv 2) qa_nil))) qe_int) qa_nil)) (qg_name (i := 6) sc__law_all.nd rfl (by first | exact .inl rfl | exact .inr rfl)) (qss_one (qs_set (i := 7) sc__law_all.nd rfl (.inl rfl) (qe_add (qv 7) (qe_call (ok__law_rising T) (hr.mono (by decide)) (by rfl) T.g__law_rising T.F__law_rising.kp (b__law_rising T) (qa_cons (qv 0) (qa_cons (qv 6) qa_nil))))))) (qss_cons (qs_for PassesOwn.never rfl (qi_range1 (by rfl) T.n_range (qa_cons (qe_add (qv 3) qe_int) qa_nil)) (qg_name (i := 6) sc__law_all.nd rfl (by first | exact .inl rfl | exact .inr rfl)) (qss_one (qs_set (i := 8) sc__law_all.nd rfl (.inl rfl) (qe_add (qv 8) (qe_call (ok__law_rising T) (hr.mono (by decide)) (by rfl) T.g__law_rising T.F__law_rising.kp (b__law_rising T) (qa_cons (qv 0) (qa_cons (qv 6) qa_nil))))))) (qss_cons (qs_for PassesOwn.never rfl (qi_list (qv 7)) (qg_name (i := 10) sc__law_all.nd rfl (by first | exact .inl rfl | exact .inr rfl)) (qss_one (qs_for PassesOwn.never rfl (qi_range2 (by rfl) T.n_range (qa_cons (qe_len (by rfl) T.n_len (qa_cons (qv 10) qa_nil)) (qa_cons (qe_add (qv 2) qe_int) qa_nil))) (qg_name (i := 11) sc__law_all.nd rfl (by first | exact .inl rfl | exact .inr rfl)) (qss_one (qs_set (i := 9) sc__law_all.nd rfl (.inl rfl) (qe_add (qv 9) (qe_lc rfl sc__law_all.nd (qi_list (qv 8)) (blkOk_by (own := [("one", 12)]) (N := ["numbers", "ahead", "drops", "behind", "last", "total", "many", "firsts", "lasts", "found", "first", "number", "one"]) (sc := defScope s__law_all) (by decide +kernel)) (by decide) (fun _ _ _ _ _ => (qg_name (i := 12) sc__law_all.nd rfl (by first | exact .inl rfl | exact .inr rfl))) (fun _ _ _ _ _ => qts_nil) (fun _ _ _ _ _ => (qe_tup (qa_cons (qv 10) (qa_cons (qv 11) (qa_cons (qv 12) qa_nil)))))))))))) (qss_one (qs_ret (qe_tuple (by rfl) T.n_tuple (qa_cons (qe_sorted (u70 hr) (by rfl) T.n_sorted (qa_cons (qv 9) qa_nil)) qa_nil)))))))))))), fun rs M R h => ?_⟩
  obtain ⟨ns, a, n, b, rfl, rfl, hn, hab, hR⟩ := h
  refine seq_ ?_
  walk_at "QS"
  refine i__law_count (m := ns.length) (q := b) (by omega) ?_
  walk_at "QS"
  refine seq_ ?_
  walk_at "QS"
  refine seq_ ?_
  walk_at "QS"
  refine ⟨by omega, by omega, ?_⟩
  rw [show min (a : Int) (n : Int) + 1 = ((min a n + 1 : Nat) : Int) by omega]
  have hrb := rs_le (m := ns.length) (k := b) (by omega) (by omega)
  obtain ⟨Ie, hIe⟩ : ∃ I : Nat → Env' → Mem → Prop, I = fun i env M => (i ≤ min a n + 1) ∧ M = [] ∧ ∃ (x6 : Option Rv) (x7 : Option Rv) (x8 : Option Rv) (x9 : Option Rv) (x10 : Option Rv) (x11 : Option Rv) (x12 : Option Rv), env = [some (.d (.tup (ns.map .int))), some (.d (.int a)), some (.d (.int n)), some (.d (.int b)), some (.d (.int (rsF ns.length b : Nat))), some (.d (.int (totZ ns.length n b i))), x6, x7, x8, x9, x10, x11, x12] := ⟨_, rfl⟩
  refine for_0 Ie (by rw [hIe]; exact ⟨by omega, rfl, _, _, _, _, _, _, _, rfl⟩) (fun i d env M hd hi => ?_) (fun env M hi => ?_)
  · rw [hIe] at hi; obtain ⟨g0, rfl, x0, x1, x2, x3, x4, x5, x6, rfl⟩ := hi
    obtain ⟨hi, rfl⟩ := rngD_get hd
    rw [Int.toNat_natCast] at hi
    walk_at "QS"
    refine i__law_count (m := ns.length) (q := i) (by omega) ?_
    walk_at "QS"
    have hri := rs_le (m := ns.length) (k := i) (by omega) (by omega)
    by_cases h0 : 0 < (i : Int)
    · rw [if_pos h0]
      rw [show ((i : Int) - 1) = ((i - 1 : Nat) : Int) by omega]
      refine i__law_count (m := ns.length) (q := i - 1) (by omega) ?_
      walk_at "QS"
      have hri2 := rs_le (m := ns.length) (k := i - 1) (by omega) (by omega)
      refine ⟨_, if_pos (.inr ⟨by omega, by omega⟩), _, if_pos (.inr ⟨by omega, by omega⟩), ?_⟩
      have et : totZ ns.length n b (i + 1) = totZ ns.length n b i + ((rsF ns.length i : Int) - (rsF ns.length (i - 1) : Int)) * ((n : Int) - i + 1) * rsF ns.length b := by rw [totZ, if_pos (by omega)]
      rw [dAdd_i, ← et]
      refine ⟨_, rfl, ?_⟩
      rw [hIe]; exact ⟨by omega, by first | rfl | (simp; done), _, _, _, _, _, _, _, rfl⟩
    · rw [if_neg h0]
      refine ⟨_, if_pos (.inr ⟨by omega, by omega⟩), _, if_pos (.inr ⟨by omega, by omega⟩), ?_⟩
      have et : totZ ns.length n b (i + 1) = totZ ns.length n b i + ((rsF ns.length i : Int) - 0) * ((n : Int) - i + 1) * rsF ns.length b := by rw [totZ, if_neg (by omega)]
      rw [dAdd_i, ← et]
      refine ⟨_, rfl, ?_⟩
      rw [hIe]; exact ⟨by omega, by first | rfl | (simp; done), _, _, _, _, _, _, _, rfl⟩
  · rw [hIe] at hi; obtain ⟨g0, rfl, x0, x1, x2, x3, x4, x5, x6, rfl⟩ := hi
    rw [rngD_len, Int.toNat_natCast]
    have ht := tot_ok ⟨ns.length, by omega⟩ ⟨a, by omega⟩ ⟨n, by omega⟩ ⟨b, by omega⟩
    simp only at ht
    rw [ht]
    walk_at "QS"
    refine seq_ ?_
    walk_at "QS"
    have hl := prg_len (d := n) hn.1 (show a ≤ 5 by omega) (show b ≤ 5 by omega)
    have hp := law_perm ns a n b
    by_cases hc : 600 < firstsN ns.length a n * rsF ns.length b
    · rw [if_pos (by omega)]
      rw [allD, if_pos hc] at hR
      exact hR
    · rw [if_neg (by omega)]
      rw [allD, if_neg hc] at hR
      refine seq_ ?_
      walk_at "QS"
      refine seq_ ?_
      walk_at "QS"
      refine ⟨by omega, by omega, ?_⟩
      rw [show min (a : Int) (n : Int) + 1 = ((min a n + 1 : Nat) : Int) by omega]
      obtain ⟨If, hIf⟩ : ∃ I : Nat → Env' → Mem → Prop, I = fun i env M => ∃ (fs : List (List Int)), (i ≤ min a n + 1) ∧ (fs = (List.range i).flatMap (lvlF ns)) ∧ M = [] ∧ ∃ (x4 : Option Rv) (x5 : Option Rv) (x6 : Option Rv) (x10 : Option Rv) (x11 : Option Rv) (x12 : Option Rv), env = [some (.d (.tup (ns.map .int))), some (.d (.int a)), some (.d (.int n)), some (.d (.int b)), x4, x5, x6, some (.d (.lst (fs.map rwD))), some (.d (.lst [])), some (.d (.lst [])), x10, x11, x12] := ⟨_, rfl⟩
      refine for_0 If (by rw [hIf]; exact ⟨[], by omega, rfl, rfl, _, _, _, _, _, _, rfl⟩) (fun i d env M hd hi => ?_) (fun env M hi => ?_)
      · rw [hIf] at hi; obtain ⟨fs, g0, g1, rfl, x0, x1, x2, x3, x4, x5, rfl⟩ := hi
        obtain ⟨hi, rfl⟩ := rngD_get hd
        rw [Int.toNat_natCast] at hi
        walk_at "QS"
        refine i__law_rising (q := i) hn.1 (by omega) ?_
        walk_at "QS"
        have hfl : fs.length ≤ 4000 := by
          have h5 := flatMap_len (f := lvlF ns) (l := List.range i) (k := 1000) fun x hx => lvl_le (k := x) hn.1 (by have := List.mem_range.mp hx; omega) rfl
          rw [List.length_range, ← g1] at h5; omega
        have hll := lvl_le (k := i) hn.1 (by omega) rfl
        refine ⟨_, addM_l (by omega), ?_⟩
        rw [hIf]; exact ⟨fs ++ lvlF ns i, by omega, by rw [g1, List.range_succ, List.flatMap_append]; simp, by first | rfl | (simp; done), _, _, _, _, _, _, rfl⟩
      · rw [hIf] at hi; obtain ⟨fs, g0, g1, rfl, x0, x1, x2, x3, x4, x5, rfl⟩ := hi
        rw [rngD_len, Int.toNat_natCast] at g1
        walk_at "QS"
        refine seq_ ?_
        walk_at "QS"
        refine ⟨by omega, by omega, ?_⟩
        rw [show (b : Int) + 1 = ((b + 1 : Nat) : Int) by omega]
        obtain ⟨Ig, hIg⟩ : ∃ I : Nat → Env' → Mem → Prop, I = fun i env M => ∃ (ls : List (List Int)), (i ≤ b + 1) ∧ (ls = (List.range i).flatMap (lvlF ns)) ∧ M = [] ∧ ∃ (x4 : Option Rv) (x5 : Option Rv) (x6 : Option Rv) (x10 : Option Rv) (x11 : Option Rv) (x12 : Option Rv), env = [some (.d (.tup (ns.map .int))), some (.d (.int a)), some (.d (.int n)), some (.d (.int b)), x4, x5, x6, some (.d (.lst (fs.map rwD))), some (.d (.lst (ls.map rwD))), some (.d (.lst [])), x10, x11, x12] := ⟨_, rfl⟩
        refine for_0 Ig (by rw [hIg]; exact ⟨[], by omega, rfl, rfl, _, _, _, _, _, _, rfl⟩) (fun i d env M hd hi => ?_) (fun env M hi => ?_)
        · rw [hIg] at hi; obtain ⟨ls, g2, g3, rfl, x0, x1, x2, x3, x4, x5, rfl⟩ := hi
          obtain ⟨hi, rfl⟩ := rngD_get hd
          rw [Int.toNat_natCast] at hi
          walk_at "QS"
          refine i__law_rising (q := i) hn.1 (by omega) ?_
          walk_at "QS"
          have hfl : ls.length ≤ 4000 := by
            have h5 := flatMap_len (f := lvlF ns) (l := List.range i) (k := 1000) fun x hx => lvl_le (k := x) hn.1 (by have := List.mem_range.mp hx; omega) rfl
            rw [List.length_range, ← g3] at h5; omega
          have hll := lvl_le (k := i) hn.1 (by omega) rfl
          refine ⟨_, addM_l (by omega), ?_⟩
          rw [hIg]; exact ⟨ls ++ lvlF ns i, by omega, by rw [g3, List.range_succ, List.flatMap_append]; simp, by first | rfl | (simp; done), _, _, _, _, _, _, rfl⟩
        · rw [hIg] at hi; obtain ⟨ls, g2, g3, rfl, x0, x1, x2, x3, x4, x5, rfl⟩ := hi
          rw [rngD_len, Int.toNat_natCast] at g3
          rw [show (List.range (b + 1)).flatMap (lvlF ns) = rowsF ns b from rfl] at g3
          subst g3
          have hrb2 := rows_le (k := b) hn.1 (by omega) rfl
          walk_at "QS"
          refine seq_ ?_
          walk_at "QS"
          obtain ⟨Ih, hIh⟩ : ∃ I : Nat → Env' → Mem → Prop, I = fun i env M => ∃ (ks : List Lt), (ks = (fs.take i).flatMap (lwF ns b n)) ∧ M = [] ∧ ∃ (x4 : Option Rv) (x5 : Option Rv) (x6 : Option Rv) (x7 : Option Rv) (x10 : Option Rv) (x11 : Option Rv) (x12 : Option Rv), env = [some (.d (.tup (ns.map .int))), some (.d (.int a)), some (.d (.int n)), some (.d (.int b)), x4, x5, x6, x7, some (.d (.lst ((rowsF ns b).map rwD))), some (.d (.lst (ks.map ltD))), x10, x11, x12] := ⟨_, rfl⟩
          refine for_0 Ih (by rw [hIh]; exact ⟨[], rfl, rfl, _, _, _, _, _, _, _, rfl⟩) (fun i d env M hd hi => ?_) (fun env M hi => ?_)
          · rw [hIh] at hi; obtain ⟨ks, g4, rfl, x0, x1, x2, x3, x4, x5, x6, rfl⟩ := hi
            obtain ⟨r, hr, rfl⟩ := map_get hd
            have hks : ks.length ≤ 600 := by
              have h6 := fm_take (lwF ns b n) fs i
              rw [← g4] at h6
              have h7 : (fs.flatMap (lwF ns b n)).length = (lawL ns a n b).length := by rw [g1]; rfl
              rw [hp.length_eq] at h7; omega
            have hrl : r.length ≤ 4 := by
              have hm := List.mem_of_getElem? hr
              rw [g1, List.mem_flatMap] at hm
              obtain ⟨k, hk, hk2⟩ := hm
              have := List.mem_range.mp hk
              rw [lvl_row hk2]; omega
            simp_all [fLen_rw]
            refine ⟨by omega, by omega, by omega, by omega, ?_⟩
            rw [show ((n : Int) + 1 - r.length).toNat = n + 1 - r.length by omega]
            obtain ⟨Iu, hIu⟩ : ∃ I : Nat → Env' → Mem → Prop, I = fun i env M => ∃ (ms : List Lt), (i ≤ n + 1 - r.length) ∧ (ms = ks ++ (List.range i).flatMap (fun j => (rowsF ns b).map fun l => ((r, r.length + j, l) : Lt))) ∧ M = [] ∧ ∃ (x4 : Option Rv) (x5 : Option Rv) (x6 : Option Rv) (x7 : Option Rv) (x11 : Option Rv) (x12 : Option Rv), env = [some (.d (.tup (ns.map .int))), some (.d (.int a)), some (.d (.int n)), some (.d (.int b)), x4, x5, x6, x7, some (.d (.lst ((rowsF ns b).map rwD))), some (.d (.lst (ms.map ltD))), some (.d (rwD r)), x11, x12] := ⟨_, rfl⟩
            refine for_0 Iu (by rw [hIu]; exact ⟨ks, by omega, by simp, rfl, _, _, _, _, _, _, rfl⟩) (fun i d env M hd hi => ?_) (fun env M hi => ?_)
            · rw [hIu] at hi; obtain ⟨ms, g5, g6, rfl, x0, x1, x2, x3, x4, x5, rfl⟩ := hi
              obtain ⟨hi, rfl⟩ := rngD_get hd
              have hms : ms.length ≤ 5600 := by
                have h5 := flatMap_len (f := fun j => (rowsF ns b).map fun l => ((r, r.length + j, l) : Lt)) (l := List.range i) (k := 1000) fun x _ => by rw [List.length_map]; exact hrb2
                rw [List.length_range] at h5
                rw [g6, List.length_append]; omega
              walk_at "QS"
              refine ⟨sz (by omega), lc_map' rwD (fun l => ltD (r, r.length + i, l)) (rowsF ns b) (fun l hl2 G hG => ?_) ?_⟩
              · walk_at "QS"
                rw [show (r.length : Int) + i = ((r.length + i : Nat) : Int) by omega]
                exact hG
              · walk_at "QS"
                rw [show (rowsF ns b).map (fun l => ltD (r, r.length + i, l)) = ((rowsF ns b).map fun l => ((r, r.length + i, l) : Lt)).map ltD by rw [List.map_map]; rfl]
                refine ⟨_, addM_l (by rw [List.length_map]; exact Nat.le_trans (Nat.add_le_add hms hrb2) (by decide)), ?_⟩
                rw [hIu]; exact ⟨ms ++ (rowsF ns b).map (fun l => ((r, r.length + i, l) : Lt)), by omega, by rw [g6, List.range_succ, List.flatMap_append]; simp, by first | rfl | (simp; done), _, _, _, _, _, _, rfl⟩
            · rw [hIu] at hi; obtain ⟨ms, g5, g6, rfl, x0, x1, x2, x3, x4, x5, rfl⟩ := hi
              rw [rngD_len] at g6
              walk_at "QS"
              rw [hIh]; exact ⟨ms, by rw [g6, g4, take_get hr, List.flatMap_append]; simp [lwF], by first | rfl | (simp; done), _, _, _, _, _, _, _, rfl⟩
          · rw [hIh] at hi; obtain ⟨ks, g4, rfl, x0, x1, x2, x3, x4, x5, x6, rfl⟩ := hi
            rw [List.length_map, List.take_length, g1] at g4
            walk_at "QS"
            refine ⟨_, srtL_s ks, ?_⟩
            walk_at "QS"
            rw [show ks = lawL ns a n b from g4, srtL_congr hp]
            exact hR
theorem i__law_all {ns : List Int} {a : Nat} {n : Nat} {b : Nat} {R : Rv → Mem → Prop} (hn : ns ∈ NS ∧ ns.length ≤ 4) (hab : a < 4 ∧ n < 5 ∧ b < 4) (k : R (.d (allD ns a n b)) []) : c__law_all [.d (.tup (ns.map .int)), .d (.int a), .d (.int n), .d (.int b)] [] R := ⟨ns, a, n, b, rfl, rfl, hn, hab, k⟩
end Lk26
set_option Elab.async false
set_option linter.all false
set_option maxRecDepth 100000
set_option maxHeartbeats 4000000
namespace Lk26
open PySem PySem.Spec PyProof.Rows L2 Dw
local macro_rules | `(tactic| walk_at "CALL") => `(tactic| first | fail)
def allH (ns : List Int) (a n b : Nat) : D := if 600 < firstsN ns.length a n * rsF ns.length b then .tup [.str (Str.ofString "call"), .str (Str.ofString "many")] else .tup [.str (Str.ofString "told"), .tup ((srtL (prgL ns a n b)).map ltD)]
def c__law_heard : Ct := fun rs M R => ∃ (ns : List Int) (a n b : Nat), rs = [.d (.tup (ns.map .int)), .d (.int a), .d (.int n), .d (.int b)] ∧ M = [] ∧ (ns ∈ NS ∧ a ≤ 5 ∧ b ≤ 5 ∧ n ≤ 600) ∧ R (.d (allH ns a n b)) []
theorem ln__law_heard : ∀ rs M R, c__law_heard rs M R → rs.length = 4 ∧ M.length = 0 := by
  rintro rs M R ⟨ns, a, n, b, rfl, rfl, _⟩; exact ⟨rfl, rfl⟩
set_option maxHeartbeats 8000000 in
theorem ok__law_heard {P : Program} {w : World} {K : PySem.W.Frag} {mg : Str → Option Value} {base : Heap} (T : Tx K mg) : FnOk P w K mg base CX0 4 T.a__law_heard T.fd__law_heard ["numbers", "ahead", "drops", "behind"] (spD K c__law_heard) := by
  refine fnD (n0 := 0) T.F__law_heard sc__law_heard ln__law_heard fun cdv A outer s H E hr => ⟨_, (qss_one (qs_try rfl rfl sc__law_heard.nd rfl (fun _ hx2 _ _ lk2 po2 => (qss_one (qs_ret (qe_tup (qa_cons qe_str (qa_cons (qe_callKX (ok_all_lots_over T) lk2 (hr.mono (by decide)) (by rfl) T.g_all_lots_over T.F_all_lots_over.kp (kb_all_lots_over_2_behind_drops T) (qa_cons (qv 0) (qa_cons (qv 1) qa_nil)) (qk_cons (qv 3) (qk_cons (qv 2) qk_nil))) qa_nil)))))) (.named (i := 4) ⟨by rfl, by decide, .inl T.gc_BadCall⟩ rfl rfl (fun a oe cls d pn hz hv e Js dd e1 e2 e3 => qss_when (p := e.C = T.cs.BadCall) fun hC => (qss_one (qs_ret (qe_tup (qa_cons qe_str (qa_cons (qe_xf hC T.xc_BadCall.xf T.fld_BadCall_word hz hv e1 e2 e3 (qv 4)) qa_nil)))))) (.bare ⟨by rfl, by decide, .inl T.gc_LikeError⟩ (fun a oe cls d pn hz hv e Js dd e1 e2 e3 => (qss_one (qs_ret (qe_tup (qa_cons qe_str qa_nil))))) .nil)))), fun rs M R h => ?_⟩
  obtain ⟨ns, a, n, b, rfl, rfl, hk, hR⟩ := h
  walk_at "QS"
  refine ⟨fun e => e = manyE T.cs ∧ 600 < firstsN ns.length a n * rsF ns.length b, fun e he => ?_, ?_⟩
  · obtain ⟨rfl, he⟩ := he
    refine .inl ⟨T.xm_BadCall_BadCall, fun a => ?_⟩
    show (sWhen _ _) _ (clEnv _ _ (List.replicate 5 none)) _
    simp_all [manyE, List.replicate]
    rw [allH, if_pos he] at hR
    exact ⟨_, rfl, hR⟩
  · walk_at "GO"
    refine ⟨ns, a, n, b, rfl, rfl, hk, fun hc => ?_, fun hc => ⟨rfl, hc⟩⟩
    walk_at "QS"
    rw [allH, if_neg (by omega)] at hR
    exact hR
end Lk26
set_option Elab.async false
set_option linter.all false
set_option maxRecDepth 100000
set_option maxHeartbeats 4000000
namespace Lk26
open PySem PySem.Spec PyProof.Rows L2 Dw
local macro_rules | `(tactic| walk_at "CALL") => `(tactic| first | (refine i__law_lots (by walk_at "SIDE") ?_; walk_at "QS"; walk_at "GO"))
def c__law_some : Ct := fun aa mm R => ∃ (t : TrS), aa = [.o 3] ∧ mm = [t.m0, t.m1, t.m2, t.m3] ∧ (∀ (l : Lt), (NumL l) → (szL l ≤ 7) → ∀ t' : TrS, R (.d (ltD l)) [t'.m0, t'.m1, t'.m2, t'.m3])
theorem ln__law_some : ∀ rs M R, c__law_some rs M R → rs.length = 1 ∧ M.length = 4 := by
  rintro aa mm R ⟨t, rfl, rfl, _⟩; exact ⟨rfl, rfl⟩
set_option maxHeartbeats 8000000 in
theorem ok__law_some {P : Program} {w : World} {K : PySem.W.Frag} {mg : Str → Option Value} {base : Heap} (T : Tx K mg) : FnOk P w K mg base CX0 4 T.a__law_some T.fd__law_some ["trough"] (spD K c__law_some) := by
  refine fnD (n0 := 4) T.F__law_some sc__law_some ln__law_some fun cdv A outer s H E hr => ⟨_, (qss_cons (qs_set (i := 1) sc__law_some.nd rfl (.inl rfl) (qe_callG 4 (ok__law_habit T) (hr.mono (by decide)) (by rfl) T.g__law_habit T.F__law_habit.kp (b__law_habit T) (qa_cons (qv 0) (qa_cons qe_int (qa_cons qe_int qa_nil))))) (qss_cons (qs_if (qt_lt (qv 1) qe_int) (qss_one (qs_ret (qe_call (ok__law_lots T) (hr.mono (by decide)) (by rfl) T.g__law_lots T.F__law_lots.kp (b__law_lots T) (qa_cons (qe_callG 4 (ok__law_silent T) (hr.mono (by decide)) (by rfl) T.g__law_silent T.F__law_silent.kp (b__law_silent T) (qa_cons (qv 0) (qa_cons qe_str (qa_cons qe_int qa_nil)))) qa_nil)))) qss_nil) (qss_cons (qs_par (i := 2) (j := 3) rfl sc__law_some.nd rfl rfl (by decide) rfl rfl (qa_cons (qe_callG 4 (ok__law_ladle T) (hr.mono (by decide)) (by rfl) T.g__law_ladle T.F__law_ladle.kp (b__law_ladle T) (qa_cons (qv 0) (qa_cons qe_int qa_nil))) (qa_cons (qe_callG 4 (ok__law_ladle T) (hr.mono (by decide)) (by rfl) T.g__law_ladle T.F__law_ladle.kp (b__law_ladle T) (qa_cons (qv 0) (qa_cons qe_int qa_nil))) qa_nil)) (by rfl)) (qss_cons (qs_set (i := 4) sc__law_some.nd rfl (.inl rfl) (qe_tup (qa_cons (qe_tup (qa_cons (qe_tup qa_nil) (qa_cons qe_int (qa_cons (qe_tup qa_nil) qa_nil)))) (qa_cons (qe_tup (qa_cons (qe_tup qa_nil) (qa_cons qe_int (qa_cons (qe_tup qa_nil) qa_nil)))) (qa_cons (qe_tup (qa_cons (qe_tup qa_nil) (qa_cons qe_int (qa_cons (qe_tup (qa_cons (qv 2) qa_nil)) qa_nil)))) (qa_cons (qe_tup (qa_cons (qe_tup (qa_cons (qv 2) qa_nil)) (qa_cons qe_int (qa_cons (qe_tup qa_nil) qa_nil)))) (qa_cons (qe_tup (qa_cons (qe_tup (qa_cons (qv 2) qa_nil)) (qa_cons qe_int (qa_cons (qe_tup (qa_cons (qv 3) qa_nil)) qa_nil)))) (qa_cons (qe_tup (qa_cons (qe_tup qa_nil) (qa_cons qe_int (qa_cons (qe_tup (qa_cons (qv 2) qa_nil)) qa_nil)))) (qa_cons (qe_tup (qa_cons (qe_tup (qa_cons (qv 2) qa_nil)) (qa_cons qe_int (qa_cons (qe_tup qa_nil) qa_nil)))) (qa_cons (qe_tup (qa_cons (qe_tuple (by rfl) T.n_tuple (qa_cons (qe_sorted (u70 hr) (by rfl) T.n_sorted (qa_cons (qe_tup (qa_cons (qv 2) (qa_cons (qv 3) qa_nil))) qa_nil)) qa_nil)) (qa_cons qe_int (qa_cons (qe_tup qa_nil) qa_nil)))) qa_nil)))))))))) (qss_one (qs_ret (qe_ix (qv 4) (qe_callG 4 (ok__law_ladle T) (hr.mono (by decide)) (by rfl) T.g__law_ladle T.F__law_ladle.kp (b__law_ladle T) (qa_cons (qv 0) (qa_cons qe_int qa_nil)))))))))), fun rs M R h => ?_⟩
  obtain ⟨t, rfl, rfl, hR⟩ := h
  walk_at "GO"
  refine i__law_habit (by decide) (by decide) fun w w0 w1 t => ?_
  walk_at "QS"
  refine seq_ ?_
  walk_at "QS"
  by_cases c : w < 2
  · rw [if_pos c]
    refine i__law_silent (most := 7) (by decide) fun r l1 n1 t => ?_
    walk_at "QS"
    refine i__law_lots (p := (Str.ofString "a", r)) (by show r.length ≤ _; omega) ?_
    walk_at "QS"
    exact hR _ (okL_lots n1).1 (by rw [szL_lots]; omega) t
  · rw [if_neg c]
    refine seq_ ?_
    walk_at "QS"
    refine i__law_ladle (by decide) fun x x0 x1 t => ?_
    walk_at "QS"
    refine i__law_ladle (by decide) fun y y0 y1 t => ?_
    walk_at "QS"
    refine seq_ ?_
    walk_at "QS"
    have es : fSorted [.tup [.int x, .int y]] (.lst ((isI [x, y]).map .int)) := isI_st [x, y]
    refine ⟨_, es, ?_⟩
    walk_at "QS"
    refine i__law_ladle (by decide) fun u u0 u1 t => ?_
    walk_at "QS"
    have hxy : ∀ n ∈ isI [x, y], 0 ≤ n ∧ n ≤ 999 := fun n hn => by
      have := isI_mem.mp hn
      simp at this
      rcases this with rfl | rfl <;> omega
    have hl2 : (isI [x, y]).length = 2 := isI_len _
    have one : ∀ l : Lt, NumL l → szL l ≤ 7 → R (.d (ltD l)) [t.m0, t.m1, t.m2, t.m3] := fun l h1 h2 => hR l h1 h2 t
    have nx : ∀ n : Int, n ∈ [x] → 0 ≤ n ∧ n ≤ 999 := fun n hn => by rw [List.mem_singleton.mp hn]; omega
    have ny : ∀ n : Int, n ∈ [y] → 0 ≤ n ∧ n ≤ 999 := fun n hn => by rw [List.mem_singleton.mp hn]; omega
    have n0 : ∀ n : Int, n ∈ ([] : List Int) → 0 ≤ n ∧ n ≤ 999 := fun n hn => by cases hn
    rcases (by omega : u = 0 ∨ u = 1 ∨ u = 2 ∨ u = 3 ∨ u = 4 ∨ u = 5 ∨ u = 6 ∨ u = 7) with rfl | rfl | rfl | rfl | rfl | rfl | rfl | rfl
    · exact ⟨_, rfl, one ([], 0, []) ⟨n0, n0⟩ (by decide)⟩
    · exact ⟨_, rfl, one ([], 1, []) ⟨n0, n0⟩ (by decide)⟩
    · exact ⟨_, rfl, one ([], 0, [x]) ⟨n0, nx⟩ (by simp [szL])⟩
    · exact ⟨_, rfl, one ([x], 1, []) ⟨nx, n0⟩ (by simp [szL])⟩
    · exact ⟨_, rfl, one ([x], 1, [y]) ⟨nx, ny⟩ (by simp [szL])⟩
    · exact ⟨_, rfl, one ([], 1, [x]) ⟨n0, nx⟩ (by simp [szL])⟩
    · exact ⟨_, rfl, one ([x], 2, []) ⟨nx, n0⟩ (by simp [szL])⟩
    · exact ⟨_, rfl, one (isI [x, y], 2, []) ⟨hxy, n0⟩ (by simp [szL, hl2])⟩
theorem i__law_some {t : TrS} {R : Rv → Mem → Prop}  (k : ∀ (l : Lt), (NumL l) → (szL l ≤ 7) → ∀ t' : TrS, R (.d (ltD l)) [t'.m0, t'.m1, t'.m2, t'.m3]) : c__law_some [.o 3] [t.m0, t.m1, t.m2, t.m3] R := ⟨t, rfl, rfl, k⟩
end Lk26
set_option Elab.async false
set_option linter.all false
set_option maxRecDepth 100000
set_option maxHeartbeats 4000000
namespace Lk26
open PySem PySem.Spec PyProof.Rows L2 Dw
local macro_rules | `(tactic| walk_at "CALL") => `(tactic| first | (refine i__law_joined (by walk_at "SIDE") ?_; walk_at "QS"; walk_at "GO") | (refine i__law_same (by walk_at "SIDE") (by walk_at "SIDE") (by walk_at "SIDE") ?_; walk_at "QS"; walk_at "GO") | (refine i_lots_commute (by walk_at "SIDE") ?_; walk_at "QS"; walk_at "GO") | (refine i_is_idle_lots (by walk_at "SIDE") ?_; walk_at "QS"; walk_at "GO") | (refine i_product_table (by walk_at "SIDE") ?_; walk_at "QS"; walk_at "GO") | (refine i_commuting_pairs (by walk_at "SIDE") ?_; walk_at "QS"; walk_at "GO") | (refine i_joined_all (by walk_at "SIDE") ?_; walk_at "QS"; walk_at "GO") | (refine i_divides_left (by walk_at "SIDE") (by walk_at "SIDE") ?_; walk_at "QS"; walk_at "GO") | (refine i_divides_right (by walk_at "SIDE") (by walk_at "SIDE") ?_; walk_at "QS"; walk_at "GO"))
def c__law_tables_asked : Ct := fun aa mm R => ∃ (t : TrS) (ls : List Lt), aa = [.o 3, .d (lsD ls)] ∧ mm = [t.m0, t.m1, t.m2, t.m3] ∧ (1 ≤ ls.length ∧ ls.length ≤ 16) ∧ (∀ l ∈ ls, szL l ≤ 7) ∧ (∀ t' : TrS, R (.d (.bl true)) [t'.m0, t'.m1, t'.m2, t'.m3])
theorem ln__law_tables_asked : ∀ rs M R, c__law_tables_asked rs M R → rs.length = 2 ∧ M.length = 4 := by
  rintro aa mm R ⟨t, ls, rfl, rfl, _⟩; exact ⟨rfl, rfl⟩
set_option maxHeartbeats 8000000 in
theorem ok__law_tables_asked {P : Program} {w : World} {K : PySem.W.Frag} {mg : Str → Option Value} {base : Heap} (T : Tx K mg) : FnOk P w K mg base CX0 5 T.a__law_tables_asked T.fd__law_tables_asked ["trough", "rows"] (spD K c__law_tables_asked) := by
  refine fnD (n0 := 4) T.F__law_tables_asked sc__law_tables_asked ln__law_tables_asked fun cdv A outer s H E hr => ⟨_, (qss_cons (qs_set (i := 2) sc__law_tables_asked.nd rfl (.inr rfl) (qe_tuple (by rfl) T.n_tuple (qa_cons (qe_lc rfl sc__law_tables_asked.nd (qi_tup (qv 1)) (blkOk_by (own := [("one", 7)]) (N := ["trough", "rows", "table", "pairs", "whole", "i", "j", "one", "told", "goal", "right", "left", "other"]) (sc := defScope s__law_tables_asked) (by decide +kernel)) (by decide) (fun _ _ _ _ _ => (qg_name (i := 7) sc__law_tables_asked.nd rfl (by first | exact .inl rfl | exact .inr rfl))) (fun _ _ _ _ _ => qts_nil) (fun _ _ _ _ _ => (qe_tuple (by rfl) T.n_tuple (qa_cons (qe_lc rfl sc__law_tables_asked.nd (qi_tup (qv 1)) (blkOk_by (own := [("other", 12)]) (N := ["trough", "rows", "table", "pairs", "whole", "i", "j", "one", "told", "goal", "right", "left", "other"]) (sc := ({ kind := PySem.ScopeKind.function, names := [ (PySem.Str.ofString ".0", PySem.NameKind.local), (PySem.Str.ofString "one", PySem.NameKind.cell), (PySem.Str.ofString "tuple", PySem.NameKind.globalImplicit), (PySem.Str.ofString "rows", PySem.NameKind.cell)], isGenerator := false, isCoroutine := false, more := [] : PySem.Scope })) (by decide +kernel)) (by decide) (fun _ _ _ _ _ => (qg_name (i := 12) sc__law_tables_asked.nd rfl (by first | exact .inl rfl | exact .inr rfl))) (fun _ _ _ _ _ => qts_nil) (fun _ _ _ _ _ => (qe_call (ok__law_joined T) (hr.mono (by decide)) (by rfl) T.g__law_joined T.F__law_joined.kp (b__law_joined T) (qa_cons (qv 7) (qa_cons (qv 12) qa_nil))))) qa_nil)))) qa_nil))) (qss_cons (qs_par (i := 3) (j := 4) rfl sc__law_tables_asked.nd rfl rfl (by decide) rfl rfl (qa_cons (qe_lst qa_nil) (qa_cons (qe_tup (qa_cons (qe_tup qa_nil) (qa_cons qe_int (qa_cons (qe_tup qa_nil) qa_nil)))) qa_nil)) (by rfl)) (qss_cons (qs_for PassesOwn.never rfl (qi_range1 (by rfl) T.n_range (qa_cons (qe_len (by rfl) T.n_len (qa_cons (qv 1) qa_nil)) qa_nil)) (qg_name (i := 5) sc__law_tables_asked.nd rfl (by first | exact .inl rfl | exact .inr rfl)) (qss_cons (qs_set (i := 3) sc__law_tables_asked.nd rfl (.inl rfl) (qe_add (qv 3) (qe_lc rfl sc__law_tables_asked.nd (qi_range2 (by rfl) T.n_range (qa_cons (qe_add (qv 5) qe_int) (qa_cons (qe_len (by rfl) T.n_len (qa_cons (qv 1) qa_nil)) qa_nil))) (blkOk_by (own := [("j", 6)]) (N := ["trough", "rows", "table", "pairs", "whole", "i", "j", "one", "told", "goal", "right", "left", "other"]) (sc := defScope s__law_tables_asked) (by decide +kernel)) (by decide) (fun _ _ _ _ _ => (qg_name (i := 6) sc__law_tables_asked.nd rfl (by first | exact .inl rfl | exact .inr rfl))) (fun _ _ _ _ _ => (qts_one (qt_eq (u64 hr) (qe_ix (qe_ix (qv 2) (qv 5)) (qv 6)) (qe_ix (qe_ix (qv 2) (qv 6)) (qv 5))))) (fun _ _ _ _ _ => (qe_tup (qa_cons (qv 5) (qa_cons (qv 6) qa_nil))))))) (qss_one (qs_set (i := 4) sc__law_tables_asked.nd rfl (.inl rfl) (qe_call (ok__law_joined T) (hr.mono (by decide)) (by rfl) T.g__law_joined T.F__law_joined.kp (b__law_joined T) (qa_cons (qv 4) (qa_cons (qe_ix (qv 1) (qv 5)) qa_nil))))))) (qss_cons (qs_if (qt_not (qt_val (qe_call (ok__law_same T) (hr.mono (by decide)) (by rfl) T.g__law_same T.F__law_same.kp (b__law_same T) (qa_cons (qe_tup (qa_cons (qe_call (ok_product_table T) (hr.mono (by decide)) (by rfl) T.g_product_table T.F_product_table.kp (b_product_table T) (qa_cons (qv 1) qa_nil)) (qa_cons (qe_call (ok_commuting_pairs T) (hr.mono (by decide)) (by rfl) T.g_commuting_pairs T.F_commuting_pairs.kp (b_commuting_pairs T) (qa_cons (qv 1) qa_nil)) (qa_cons (qe_call (ok_joined_all T) (hr.mono (by decide)) (by rfl) T.g_joined_all T.F_joined_all.kp (b_joined_all T) (qa_cons (qv 1) qa_nil)) qa_nil)))) (qa_cons (qe_tup (qa_cons (qv 2) (qa_cons (qe_tuple (by rfl) T.n_tuple (qa_cons (qv 3) qa_nil)) (qa_cons (qv 4) qa_nil)))) qa_nil))))) (qss_one (qs_ret qe_bl)) qss_nil) (qss_cons (qs_for PassesOwn.never rfl (qi_range1 (by rfl) T.n_range (qa_cons (qe_len (by rfl) T.n_len (qa_cons (qv 1) qa_nil)) qa_nil)) (qg_name (i := 5) sc__law_tables_asked.nd rfl (by first | exact .inl rfl | exact .inr rfl)) (qss_cons (qs_parN rfl (qa_cons (qe_callG 4 (ok__law_ladle T) (hr.mono (by decide)) (by rfl) T.g__law_ladle T.F__law_ladle.kp (b__law_ladle T) (qa_cons (qv 0) (qa_cons (qe_len (by rfl) T.n_len (qa_cons (qv 1) qa_nil)) qa_nil))) (qa_cons (qe_ix (qv 1) (qv 5)) qa_nil)) (qn_cons (i := 6) sc__law_tables_asked.nd rfl (by first | exact .inl rfl | exact .inr rfl) (qn_cons (i := 7) sc__law_tables_asked.nd rfl (by first | exact .inl rfl | exact .inr rfl) qn_nil))) (qss_cons (qs_set (i := 8) sc__law_tables_asked.nd rfl (.inl rfl) (qe_tup (qa_cons (qe_call (ok_lots_commute T) (hr.mono (by decide)) (by rfl) T.g_lots_commute T.F_lots_commute.kp (b_lots_commute T) (qa_cons (qv 7) (qa_cons (qe_ix (qv 1) (qv 6)) qa_nil))) (qa_cons (qe_call (ok_is_idle_lots T) (hr.mono (by decide)) (by rfl) T.g_is_idle_lots T.F_is_idle_lots.kp (b_is_idle_lots T) (qa_cons (qv 7) qa_nil)) qa_nil)))) (qss_cons (qs_if (qt_not (qt_val (qe_call (ok__law_same T) (hr.mono (by decide)) (by rfl) T.g__law_same T.F__law_same.kp (b__law_same T) (qa_cons (qv 8) (qa_cons (qe_tup (qa_cons (qe_eq (u64 hr) (qe_ix (qe_ix (qv 2) (qv 5)) (qv 6)) (qe_ix (qe_ix (qv 2) (qv 6)) (qv 5))) (qa_cons (qe_eq (u64 hr) (qe_ix (qe_ix (qv 2) (qv 5)) (qv 5)) (qv 7)) qa_nil))) qa_nil))))) (qss_one (qs_ret qe_bl)) qss_nil) (qss_one (qs_for PassesOwn.never rfl (qi_tup (qe_tup (qa_cons (qe_ix (qe_ix (qv 2) (qv 5)) (qv 6)) (qa_cons (qe_ix (qe_ix (qv 2) (qv 6)) (qv 5)) (qa_cons (qe_callG 4 (ok__law_some T) (hr.mono (by decide)) (by rfl) T.g__law_some T.F__law_some.kp (b__law_some T) (qa_cons (qv 0) qa_nil)) (qa_cons (qv 7) qa_nil)))))) (qg_name (i := 9) sc__law_tables_asked.nd rfl (by first | exact .inl rfl | exact .inr rfl)) (qss_cons (qs_set (i := 10) sc__law_tables_asked.nd rfl (.inl rfl) (qe_add (qe_lc rfl sc__law_tables_asked.nd (qi_tup (qv 1)) (blkOk_by (own := [("other", 12)]) (N := ["trough", "rows", "table", "pairs", "whole", "i", "j", "one", "told", "goal", "right", "left", "other"]) (sc := defScope s__law_tables_asked) (by decide +kernel)) (by decide) (fun _ _ _ _ _ => (qg_name (i := 12) sc__law_tables_asked.nd rfl (by first | exact .inl rfl | exact .inr rfl))) (fun _ _ _ _ _ => (qts_one (qt_eq (u64 hr) (qe_call (ok__law_joined T) (hr.mono (by decide)) (by rfl) T.g__law_joined T.F__law_joined.kp (b__law_joined T) (qa_cons (qv 7) (qa_cons (qv 12) qa_nil))) (qv 9)))) (fun _ _ _ _ _ => (qv 12))) (qe_lst (qa_cons qe_non qa_nil)))) (qss_cons (qs_set (i := 11) sc__law_tables_asked.nd rfl (.inl rfl) (qe_add (qe_lc rfl sc__law_tables_asked.nd (qi_tup (qv 1)) (blkOk_by (own := [("other", 12)]) (N := ["trough", "rows", "table", "pairs", "whole", "i", "j", "one", "told", "goal", "right", "left", "other"]) (sc := defScope s__law_tables_asked) (by decide +kernel)) (by decide) (fun _ _ _ _ _ => (qg_name (i := 12) sc__law_tables_asked.nd rfl (by first | exact .inl rfl | exact .inr rfl))) (fun _ _ _ _ _ => (qts_one (qt_eq (u64 hr) (qe_call (ok__law_joined T) (hr.mono (by decide)) (by rfl) T.g__law_joined T.F__law_joined.kp (b__law_joined T) (qa_cons (qv 12) (qa_cons (qv 7) qa_nil))) (qv 9)))) (fun _ _ _ _ _ => (qv 12))) (qe_lst (qa_cons qe_non qa_nil)))) (qss_one (qs_if (qt_not (qt_val (qe_call (ok__law_same T) (hr.mono (by decide)) (by rfl) T.g__law_same T.F__law_same.kp (b__law_same T) (qa_cons (qe_tup (qa_cons (qe_call (ok_divides_left T) (hr.mono (by decide)) (by rfl) T.g_divides_left T.F_divides_left.kp (b_divides_left T) (qa_cons (qv 7) (qa_cons (qv 9) (qa_cons (qv 1) qa_nil)))) (qa_cons (qe_call (ok_divides_right T) (hr.mono (by decide)) (by rfl) T.g_divides_right T.F_divides_right.kp (b_divides_right T) (qa_cons (qv 7) (qa_cons (qv 9) (qa_cons (qv 1) qa_nil)))) qa_nil))) (qa_cons (qe_tup (qa_cons (qe_ix (qv 10) qe_int) (qa_cons (qe_ix (qv 11) qe_int) qa_nil))) qa_nil))))) (qss_one (qs_ret qe_bl)) qss_nil)))))))))) (qss_one (qs_ret qe_bl))))))), fun rs M R h => ?_⟩
  obtain ⟨t, ls, rfl, rfl, hl, hz, hR⟩ := h
  have hrow : rowsOk 20 ls := ⟨by omega, fun l hl' => Nat.le_trans (hz l hl') (by decide)⟩
  have hrow2 : rowsOk 100 ls := ⟨by omega, fun l hl' => Nat.le_trans (hz l hl') (by decide)⟩
  have get : ∀ k : Nat, k < ls.length → atI ls (k : Int) = some (ls.getD k l0) := fun k hk => atI_some (by rw [List.getD_eq_getElem?_getD, List.getElem?_eq_getElem hk]; rfl)
  have gm : ∀ k : Nat, k < ls.length → ls.getD k l0 ∈ ls := fun k hk => by rw [List.getD_eq_getElem?_getD, List.getElem?_eq_getElem hk]; exact List.getElem_mem _
  rw [lsD]
  refine seq_ ?_
  walk_at "QS"
  refine ⟨sz (by omega), lc_map' ltD (fun a => .tup (ls.map fun b => ltD (joinL a b))) ls (fun a ha G hG => ?_) ?_⟩
  · have ha' := hz a ha
    walk_at "QS"
    refine ⟨sz (by omega), lc_map' ltD (fun b => ltD (joinL a b)) ls (fun b hb G hG => ?_) ?_⟩
    · have hb' := hz b hb
      walk_at "QS"
      refine i__law_joined (by omega) ?_
      walk_at "QS"
      exact hG
    · walk_at "QS"
      exact hG
  walk_at "QS"
  refine seq_ ?_
  walk_at "QS"
  refine seq_ ?_
  walk_at "QS"
  refine ⟨by omega, by omega, ?_⟩
  rw [show D.tup [.tup [], .int 0, .tup []] = ltD l0 from rfl]
  obtain ⟨Ie, hIe⟩ : ∃ I : Nat → Env' → Mem → Prop, I = fun i env M => ∃ (t : TrS) (ps : List D) (l : Lt), (ps = ((List.range ls.length).take i).flatMap (comF ls)) ∧ (l = allF (ls.take i)) ∧ (szL l ≤ i * 7) ∧ M = [t.m0, t.m1, t.m2, t.m3] ∧ ∃ (x5 : Option Rv) (x6 : Option Rv) (x7 : Option Rv) (x8 : Option Rv) (x9 : Option Rv) (x10 : Option Rv) (x11 : Option Rv) (x12 : Option Rv), env = [some (.o 3), some (.d (.tup (ls.map ltD))), some (.d (tabF ls)), some (.d (.lst ps)), some (.d (ltD l)), x5, x6, x7, x8, x9, x10, x11, x12] := ⟨_, rfl⟩
  refine for_0 Ie (by rw [hIe]; exact ⟨_, [], l0, rfl, rfl, by simp [szL_0], rfl, _, _, _, _, _, _, _, _, rfl⟩) (fun i d env M hd hi => ?_) (fun env M hi => ?_)
  · rw [hIe] at hi; obtain ⟨t, ps, l, g1, g2, g3, rfl, x0, x1, x2, x3, x4, x5, x6, x7, rfl⟩ := hi
    obtain ⟨hi, rfl⟩ := rngD_get hd
    rw [show (ls.length : Int).toNat = ls.length from rfl] at hi
    rw [tabF]
    refine seq_ ?_
    walk_at "QS"
    have hg : ls[i]? = some (ls.getD i l0) := by rw [List.getD_eq_getElem?_getD, List.getElem?_eq_getElem hi]; rfl
    have hc := comF_len ls i
    have hlen : ps.length ≤ 1600 := by
      have h5 := flatMap_len (f := comF ls) (l := (List.range ls.length).take i) (k := 100) fun x _ => Nat.le_trans (comF_len ls x) (by omega)
      rw [List.length_take, List.length_range, ← g1] at h5
      have := Nat.mul_le_mul_right 100 (show min i ls.length ≤ 16 by omega)
      omega
    refine ⟨by omega, by omega, by omega, by omega, sz (by rw [rngD_len]; omega), ?_⟩
    rw [rngA_eq, show ((ls.length : Int) - ((i : Int) + 1)).toNat = ls.length - 1 - i by omega]
    refine lc_map (fun j : Nat => D.int ((i : Int) + 1 + j)) (fun j => eqL (joinL (ls.getD i l0) (ls.getD (i + 1 + j) l0)) (joinL (ls.getD (i + 1 + j) l0) (ls.getD i l0))) (fun j : Nat => D.tup [.int i, .int ((i + 1 + j : Nat) : Int)]) (List.range (ls.length - 1 - i)) (fun j hj G acc q1 q2 => ?_) ?_
    · have hj' := List.mem_range.mp hj
      rw [show ((i : Int) + 1 + j) = ((i + 1 + j : Nat) : Int) by omega]
      simp_all [get i hi, get (i + 1 + j) (by omega), ltD_eq]
      exact lc_fin' q1 q2
    rw [show (((List.range (ls.length - 1 - i)).filter fun j => eqL (joinL (ls.getD i l0) (ls.getD (i + 1 + j) l0)) (joinL (ls.getD (i + 1 + j) l0) (ls.getD i l0))).map fun j : Nat => D.tup [.int i, .int ((i + 1 + j : Nat) : Int)]) = comF ls i from rfl]
    simp_all [get i hi]
    rw [dAdd_l, if_pos (sz (by omega))]
    refine ⟨_, rfl, ?_⟩
    have hzi := hz _ (gm i hi)
    refine i__law_joined (by omega) ?_
    walk_at "QS"
    rw [hIe]; exact ⟨t, ps ++ comF ls i, joinL l (ls.getD i l0), by rw [g1, take_get (List.getElem?_range hi), List.flatMap_append]; simp, by rw [take_get hg, allF, List.foldl_append, g2]; rfl, by rw [szL_join]; omega, by first | rfl | (simp; done), _, _, _, _, _, _, _, _, rfl⟩
  · rw [hIe] at hi; obtain ⟨t, ps, l, g1, g2, g3, rfl, x0, x1, x2, x3, x4, x5, x6, x7, rfl⟩ := hi
    rw [rngD_len, show (ls.length : Int).toNat = ls.length from rfl] at g1 g2 g3
    rw [List.take_of_length_le (by simp)] at g1
    rw [List.take_length] at g2
    subst g2
    walk_at "QS"
    refine seq_ ?_
    walk_at "QS"
    refine i_product_table (ls := ls) hrow2 ?_
    walk_at "QS"
    refine i_commuting_pairs (ls := ls) hrow2 ?_
    walk_at "QS"
    refine i_joined_all (ls := ls) hrow ?_
    walk_at "QS"
    rw [← g1]
    have hpl : ps.length ≤ 256 := by
      have h5 := flatMap_len (f := comF ls) (l := List.range ls.length) (k := 16) fun x _ => Nat.le_trans (comF_len ls x) (by omega)
      rw [List.length_range, ← g1] at h5; omega
    have hpp : ∀ d ∈ ps, Dw.plain d = true ∧ psz d ≤ 3 := fun d hd => by
      rw [g1, List.mem_flatMap] at hd
      obtain ⟨k, _, hd⟩ := hd
      obtain ⟨j, _, rfl⟩ := List.mem_map.mp hd
      exact ⟨rfl, by simp [psz, pszs]⟩
    refine i__law_same (by rfl) ?_ ?_ ?_
    · simp only [Dw.plain,plains,tabF,ltD_plain,Bool.and_true]
      rw [Bool.and_eq_true]
      exact ⟨plains_map fun a _ => plains_map fun b _ => ltD_plain _, plains_all.mpr fun d hd => (hpp d hd).1⟩
    · have k1 := pszs_map_le (f := fun a : Lt => D.tup (ls.map fun b => ltD (joinL a b))) (l := ls) (k := 289) fun a ha => by
        have k2 := pszs_map_le (f := fun b : Lt => ltD (joinL a b)) (l := ls) (k := 18) fun b hb => by
          have := ltD_psz (joinL a b)
          have := szL_join a b
          have := hz a ha
          have := hz b hb
          omega
        simp only [psz]; omega
      have k3 := pszs_map_le (f := fun d : D => d) (l := ps) (k := 3) fun d hd => (hpp d hd).2
      rw [List.map_id'] at k3
      have k4 := ltD_psz (allF ls)
      simp only [psz,pszs,tabF]; omega
    walk_at "QS"
    refine seq_ ?_
    walk_at "QS"
    rw [tabF]
    refine ⟨by omega, by omega, ?_⟩
    obtain ⟨If, hIf⟩ : ∃ I : Nat → Env' → Mem → Prop, I = fun i env M => ∃ (t : TrS), M = [t.m0, t.m1, t.m2, t.m3] ∧ ∃ (x3 : Option Rv) (x4 : Option Rv) (x5 : Option Rv) (x6 : Option Rv) (x7 : Option Rv) (x8 : Option Rv) (x9 : Option Rv) (x10 : Option Rv) (x11 : Option Rv) (x12 : Option Rv), env = [some (.o 3), some (.d (.tup (ls.map ltD))), some (.d (.tup (ls.map fun a => .tup (ls.map fun b => ltD (joinL a b))))), x3, x4, x5, x6, x7, x8, x9, x10, x11, x12] := ⟨_, rfl⟩
    refine for_0 If (by rw [hIf]; exact ⟨_, rfl, _, _, _, _, _, _, _, _, _, _, rfl⟩) (fun i d env M hd hi => ?_) (fun env M hi => ?_)
    · rw [hIf] at hi; obtain ⟨t, rfl, x0, x1, x2, x3, x4, x5, x6, x7, x8, x9, rfl⟩ := hi
      obtain ⟨hi, rfl⟩ := rngD_get hd
      rw [show (ls.length : Int).toNat = ls.length from rfl] at hi
      refine seq_ ?_
      walk_at "QS"
      refine i__law_ladle ⟨by omega, by omega⟩ fun j j0 j1 t => ?_
      simp_all [get i hi]
      obtain ⟨j, rfl⟩ : ∃ k : Nat, j = k := ⟨j.toNat, by omega⟩
      have hj : j < ls.length := by omega
      have z1 := hz _ (gm i hi)
      have z2 := hz _ (gm j hj)
      refine seq_ ?_
      simp_all [get j hj]
      refine i_lots_commute (by omega) ?_
      walk_at "QS"
      refine i_is_idle_lots (by omega) ?_
      walk_at "QS"
      refine seq_ ?_
      simp_all [get i hi, get j hj, ltD_eq]
      refine i__law_same (by rfl) (by rfl) (by simp [psz, pszs]) ?_
      simp_all [get i hi, get j hj]
      refine i__law_some fun g ng zg t => ?_
      walk_at "QS"
      rw [show ([ltD (joinL (ls.getD i l0) (ls.getD j l0)), ltD (joinL (ls.getD j l0) (ls.getD i l0)), ltD g, ltD (ls.getD i l0)] : List D) = [joinL (ls.getD i l0) (ls.getD j l0), joinL (ls.getD j l0) (ls.getD i l0), g, ls.getD i l0].map ltD from rfl]
      generalize ls.getD i l0 = one at *
      obtain ⟨Iu, hIu⟩ : ∃ I : Nat → Env' → Mem → Prop, I = fun i env M => ∃ (t : TrS), M = [t.m0, t.m1, t.m2, t.m3] ∧ ∃ (x3 : Option Rv) (x4 : Option Rv) (x5 : Option Rv) (x6 : Option Rv) (x8 : Option Rv) (x9 : Option Rv) (x10 : Option Rv) (x11 : Option Rv) (x12 : Option Rv), env = [some (.o 3), some (.d (.tup (ls.map ltD))), some (.d (.tup (ls.map fun a => .tup (ls.map fun b => ltD (joinL a b))))), x3, x4, x5, x6, some (.d (ltD one)), x8, x9, x10, x11, x12] := ⟨_, rfl⟩
      refine for_0 Iu (by rw [hIu]; exact ⟨_, rfl, _, _, _, _, _, _, _, _, _, rfl⟩) (fun i d env M hd hi => ?_) (fun env M hi => ?_)
      · rw [hIu] at hi; obtain ⟨t, rfl, x0, x1, x2, x3, x4, x5, x6, x7, x8, rfl⟩ := hi
        obtain ⟨goal, hgo, rfl⟩ := map_get hd
        refine seq_ ?_
        walk_at "QS"
        refine ⟨sz (by omega), lc_map ltD (fun b => eqL (joinL one b) goal) ltD ls (fun b hb G acc q1 q2 => ?_) ?_⟩
        · have := hz b hb
          walk_at "QS"
          refine i__law_joined (by omega) ?_
          simp_all [ltD_eq]
          exact lc_fin' q1 q2
        walk_at "QS"
        rw [dAdd_l, if_pos (sz (by have := List.length_filter_le (fun b => eqL (joinL one b) goal) ls; simp; omega))]
        refine ⟨_, rfl, ?_⟩
        refine seq_ ?_
        walk_at "QS"
        refine ⟨sz (by omega), lc_map ltD (fun b => eqL (joinL b one) goal) ltD ls (fun b hb G acc q1 q2 => ?_) ?_⟩
        · have := hz b hb
          walk_at "QS"
          refine i__law_joined (by omega) ?_
          simp_all [ltD_eq]
          exact lc_fin' q1 q2
        walk_at "QS"
        rw [dAdd_l, if_pos (sz (by have := List.length_filter_le (fun b => eqL (joinL b one) goal) ls; simp; omega))]
        refine ⟨_, rfl, ?_⟩
        walk_at "QS"
        refine i_divides_left (ls := ls) hrow2 (by omega) ?_
        walk_at "QS"
        refine i_divides_right (ls := ls) hrow2 (by omega) ?_
        walk_at "QS"
        refine ⟨_, find0 (p := fun b => eqL (joinL one b) goal), _, find0 (p := fun b => eqL (joinL b one) goal), ?_⟩
        have o1 := oLt_psz (divL one goal ls) fun l h => hz l (List.mem_of_find?_eq_some h)
        have o2 := oLt_psz (divR one goal ls) fun l h => hz l (List.mem_of_find?_eq_some h)
        refine i__law_same (by rfl) ?_ ?_ ?_
        · simp [Dw.plain, plains, oLt_plain]
        · simp only [psz,pszs]; omega
        walk_at "QS"
        rw [hIu]; exact ⟨t, by first | rfl | (simp; done), _, _, _, _, _, _, _, _, _, rfl⟩
      · rw [hIu] at hi; obtain ⟨t, rfl, x0, x1, x2, x3, x4, x5, x6, x7, x8, rfl⟩ := hi
        walk_at "QS"
        rw [hIf]; exact ⟨t, by first | rfl | (simp; done), _, _, _, _, _, _, _, _, _, _, rfl⟩
    · rw [hIf] at hi; obtain ⟨t, rfl, x0, x1, x2, x3, x4, x5, x6, x7, x8, x9, rfl⟩ := hi
      walk_at "QS"
      exact hR t
theorem i__law_tables_asked {t : TrS} {ls : List Lt} {R : Rv → Mem → Prop} (hl : 1 ≤ ls.length ∧ ls.length ≤ 16) (hz : ∀ l ∈ ls, szL l ≤ 7) (k : ∀ t' : TrS, R (.d (.bl true)) [t'.m0, t'.m1, t'.m2, t'.m3]) : c__law_tables_asked [.o 3, .d (lsD ls)] [t.m0, t.m1, t.m2, t.m3] R := ⟨t, ls, rfl, rfl, hl, hz, k⟩
end Lk26
set_option Elab.async false
set_option linter.all false
set_option maxRecDepth 100000
set_option maxHeartbeats 4000000
namespace Lk26
open PySem PySem.Spec PyProof.Rows L2 Dw
local macro_rules | `(tactic| walk_at "CALL") => `(tactic| first | (refine i__law_done (by walk_at "SIDE") ?_; walk_at "QS"; walk_at "GO") | (refine i__law_same (by walk_at "SIDE") (by walk_at "SIDE") (by walk_at "SIDE") ?_; walk_at "QS"; walk_at "GO") | (refine i__law_joined (by walk_at "SIDE") ?_; walk_at "QS"; walk_at "GO") | (refine i__law_recipe (by walk_at "SIDE") ?_; walk_at "QS"; walk_at "GO") | (refine i_change_of  ?_; walk_at "QS"; walk_at "GO") | (refine i_unknown_taken  ?_; walk_at "QS"; walk_at "GO") | (refine i_power_sizes (by walk_at "SIDE") ?_; walk_at "QS"; walk_at "GO") | (refine i_kept_least (by walk_at "SIDE") ?_; walk_at "QS"; walk_at "GO") | (refine i_least_kept_number  ?_; walk_at "QS"; walk_at "GO") | (refine i_lots_line (by walk_at "SIDE") (by walk_at "SIDE") ?_; walk_at "QS"; walk_at "GO"))
def c__law_looks_asked : Ct := fun aa mm R => ∃ (t : TrS) (a : Lt), aa = [.o 3, .d (ltD a)] ∧ mm = [t.m0, t.m1, t.m2, t.m3] ∧ (NumL a) ∧ (szL a ≤ 7) ∧ (∀ t' : TrS, R (.d (.bl true)) [t'.m0, t'.m1, t'.m2, t'.m3])
theorem ln__law_looks_asked : ∀ rs M R, c__law_looks_asked rs M R → rs.length = 2 ∧ M.length = 4 := by
  rintro aa mm R ⟨t, a, rfl, rfl, _⟩; exact ⟨rfl, rfl⟩
set_option maxHeartbeats 8000000 in
theorem ok__law_looks_asked {P : Program} {w : World} {K : PySem.W.Frag} {mg : Str → Option Value} {base : Heap} (T : Tx K mg) : FnOk P w K mg base CX0 4 T.a__law_looks_asked T.fd__law_looks_asked ["trough", "lots"] (spD K c__law_looks_asked) := by
  refine fnD (n0 := 4) T.F__law_looks_asked sc__law_looks_asked ln__law_looks_asked fun cdv A outer s H E hr => ⟨_, (qss_cons (qs_asg (qv 1) (qg_tupn (n := 3) rfl (qgs_cons (qg_name (i := 2) sc__law_looks_asked.nd rfl (by first | exact .inl rfl | exact .inr rfl)) (qgs_cons (qg_name (i := 3) sc__law_looks_asked.nd rfl (by first | exact .inl rfl | exact .inr rfl)) (qgs_cons (qg_name (i := 4) sc__law_looks_asked.nd rfl (by first | exact .inl rfl | exact .inr rfl)) qgs_nil))))) (qss_cons (qs_parN rfl (qa_cons (qe_callG 4 (ok__law_things T) (hr.mono (by decide)) (by rfl) T.g__law_things T.F__law_things.kp (b__law_things T) (qa_cons (qv 0) (qa_cons qe_int qa_nil))) (qa_cons (qe_callG 4 (ok__law_ladle T) (hr.mono (by decide)) (by rfl) T.g__law_ladle T.F__law_ladle.kp (b__law_ladle T) (qa_cons (qv 0) (qa_cons qe_int qa_nil))) (qa_cons (qe_lstO (qa_cons qe_int qa_nil)) (qa_cons (qe_tup (qa_cons (qe_tup qa_nil) (qa_cons qe_int (qa_cons (qe_tup qa_nil) qa_nil)))) qa_nil)))) (qn_cons (i := 5) sc__law_looks_asked.nd rfl (by first | exact .inl rfl | exact .inr rfl) (qn_cons (i := 6) sc__law_looks_asked.nd rfl (by first | exact .inl rfl | exact .inr rfl) (qn_cons (i := 7) sc__law_looks_asked.nd rfl (by first | exact .inl rfl | exact .inr rfl) (qn_cons (i := 8) sc__law_looks_asked.nd rfl (by first | exact .inl rfl | exact .inr rfl) qn_nil))))) (qss_cons (qs_for PassesOwn.never rfl (qi_range1 (by rfl) T.n_range (qa_cons (qv 6) qa_nil)) (qg_name (i := 9) sc__law_looks_asked.nd rfl (by first | exact .inl rfl | exact .inr rfl)) (qss_cons (qs_set (i := 8) sc__law_looks_asked.nd rfl (.inl rfl) (qe_call (ok__law_joined T) (hr.mono (by decide)) (by rfl) T.g__law_joined T.F__law_joined.kp (b__law_joined T) (qa_cons (qv 8) (qa_cons (qv 1) qa_nil)))) (qss_one (qs_expr (qe_append (qv 7) (qe_add (qe_add (qe_len (by rfl) T.n_len (qa_cons (qe_ix (qv 8) qe_int) qa_nil)) (qe_ix (qv 8) qe_int)) (qe_len (by rfl) T.n_len (qa_cons (qe_ix (qv 8) qe_int) qa_nil)))))))) (qss_cons (qs_set (i := 10) sc__law_looks_asked.nd rfl (.inl rfl) (qe_call (ok__law_done T) (hr.mono (by decide)) (by rfl) T.g__law_done T.F__law_done.kp (b__law_done T) (qa_cons (qe_call (ok__law_recipe T) (hr.mono (by decide)) (by rfl) T.g__law_recipe T.F__law_recipe.kp (b__law_recipe T) (qa_cons (qv 1) (qa_cons qe_str qa_nil))) (qa_cons (qv 5) qa_nil)))) (qss_cons (qs_set (i := 11) sc__law_looks_asked.nd rfl (.inl rfl) (qe_join qe_str (qe_add (qe_add (qe_lc rfl sc__law_looks_asked.nd (qi_tup (qv 2)) (blkOk_by (own := [("one", 14)]) (N := ["trough", "lots", "first", "drops", "last", "things", "times", "sizes", "power", "lap", "left", "line", "told", "due", "one"]) (sc := defScope s__law_looks_asked) (by decide +kernel)) (by decide) (fun _ _ _ _ _ => (qg_name (i := 14) sc__law_looks_asked.nd rfl (by first | exact .inl rfl | exact .inr rfl))) (fun _ _ _ _ _ => qts_nil) (fun _ _ _ _ _ => (qe_strc (by rfl) T.n_str (qa_cons (qv 14) qa_nil)))) (qe_lst (qa_cons qe_str (qa_cons (qe_strc (by rfl) T.n_str (qa_cons (qv 3) qa_nil)) (qa_cons qe_str qa_nil))))) (qe_lc rfl sc__law_looks_asked.nd (qi_tup (qv 4)) (blkOk_by (own := [("one", 14)]) (N := ["trough", "lots", "first", "drops", "last", "things", "times", "sizes", "power", "lap", "left", "line", "told", "due", "one"]) (sc := defScope s__law_looks_asked) (by decide +kernel)) (by decide) (fun _ _ _ _ _ => (qg_name (i := 14) sc__law_looks_asked.nd rfl (by first | exact .inl rfl | exact .inr rfl))) (fun _ _ _ _ _ => qts_nil) (fun _ _ _ _ _ => (qe_strc (by rfl) T.n_str (qa_cons (qv 14) qa_nil))))))) (qss_cons (qs_set (i := 12) sc__law_looks_asked.nd rfl (.inl rfl) (qe_tup (qa_cons (qe_call (ok_change_of T) (hr.mono (by decide)) (by rfl) T.g_change_of T.F_change_of.kp (b_change_of T) (qa_cons (qv 1) qa_nil)) (qa_cons (qe_call (ok_unknown_taken T) (hr.mono (by decide)) (by rfl) T.g_unknown_taken T.F_unknown_taken.kp (b_unknown_taken T) (qa_cons (qv 1) qa_nil)) (qa_cons (qe_call (ok_power_sizes T) (hr.mono (by decide)) (by rfl) T.g_power_sizes T.F_power_sizes.kp (b_power_sizes T) (qa_cons (qv 1) (qa_cons (qv 6) qa_nil))) (qa_cons (qe_call (ok_kept_least T) (hr.mono (by decide)) (by rfl) T.g_kept_least T.F_kept_least.kp (b_kept_least T) (qa_cons (qv 1) (qa_cons (qv 5) qa_nil))) (qa_cons (qe_call (ok_least_kept_number T) (hr.mono (by decide)) (by rfl) T.g_least_kept_number T.F_least_kept_number.kp (b_least_kept_number T) (qa_cons (qv 1) qa_nil)) (qa_cons (qe_call (ok_lots_line T) (hr.mono (by decide)) (by rfl) T.g_lots_line T.F_lots_line.kp (b_lots_line T) (qa_cons (qv 1) qa_nil)) qa_nil)))))))) (qss_cons (qs_set (i := 13) sc__law_looks_asked.nd rfl (.inl rfl) (qe_tup (qa_cons (qe_sub (qe_add (qe_len (by rfl) T.n_len (qa_cons (qv 2) qa_nil)) (qe_len (by rfl) T.n_len (qa_cons (qv 4) qa_nil))) (qv 3)) (qa_cons (qe_sub (qv 3) (qe_len (by rfl) T.n_len (qa_cons (qv 2) qa_nil))) (qa_cons (qe_tuple (by rfl) T.n_tuple (qa_cons (qv 7) qa_nil)) (qa_cons (qe_if (qt_gt (qe_len (by rfl) T.n_len (qa_cons (qv 10) qa_nil)) qe_int) (qe_ix (qv 10) qe_int) qe_non) (qa_cons (qe_if (qt_gt (qe_len (by rfl) T.n_len (qa_cons (qv 4) qa_nil)) qe_int) (qe_ix (qv 4) qe_int) qe_non) (qa_cons (qv 11) qa_nil)))))))) (qss_one (qs_ret (qe_call (ok__law_same T) (hr.mono (by decide)) (by rfl) T.g__law_same T.F__law_same.kp (b__law_same T) (qa_cons (qv 12) (qa_cons (qv 13) qa_nil)))))))))))), fun rs M R h => ?_⟩
  obtain ⟨t, a, rfl, rfl, hn, hz, hR⟩ := h
  have hsz := szL_parts a
  rw [ltD]
  walk_at "GO"
  refine i__law_things (most := 7) (by decide) fun ts q1 q2 t => ?_
  walk_at "QS"
  refine i__law_ladle (by decide) fun n n0 n1 t => ?_
  walk_at "QS"
  obtain ⟨n, rfl⟩ : ∃ k : Nat, n = k := ⟨n.toNat, by omega⟩
  refine seq_ ?_
  walk_at "QS"
  refine ⟨by omega, by omega, ?_⟩
  rw [show D.tup [.tup (a.1.map .int), .int (a.2.1 : Int), .tup (a.2.2.map .int)] = ltD a from rfl]
  rw [show D.tup [.tup [], .int 0, .tup []] = ltD l0 from rfl]
  obtain ⟨Ie, hIe⟩ : ∃ I : Nat → Env' → Mem → Prop, I = fun i env M => ∃ (t : TrS) (l : Lt) (ns : List Nat), (l = powL a i) ∧ (ns = (List.range (i + 1)).map fun k => k * szL a) ∧ M = [t.m0, t.m1, t.m2, t.m3, .lst (ns.map fun k : Nat => D.int k)] ∧ ∃ (x9 : Option Rv) (x10 : Option Rv) (x11 : Option Rv) (x12 : Option Rv) (x13 : Option Rv) (x14 : Option Rv), env = [some (.o 3), some (.d (ltD a)), some (.d (.tup (a.1.map .int))), some (.d (.int a.2.1)), some (.d (.tup (a.2.2.map .int))), some (.d (.tup (ts.map .int))), some (.d (.int n)), some (.o 4), some (.d (ltD l)), x9, x10, x11, x12, x13, x14] := ⟨_, rfl⟩
  refine for_0 Ie (by rw [hIe]; exact ⟨_, l0, [0], rfl, by simp, rfl, _, _, _, _, _, _, rfl⟩) (fun i d env M hd hi => ?_) (fun env M hi => ?_)
  · rw [hIe] at hi; obtain ⟨t, l, ns, g1, g2, rfl, x0, x1, x2, x3, x4, x5, rfl⟩ := hi
    obtain ⟨hi, rfl⟩ := rngD_get hd
    have hp := szL_pow a i
    have h2 := Nat.mul_le_mul (show i ≤ 6 by omega) hz
    rw [← g1] at hp
    refine seq_ ?_
    walk_at "QS"
    refine i__law_joined (by omega) ?_
    simp_all [ltD_i0, ltD_i1, ltD_i2, List.length_map]
    have hl : ns.length ≤ 101 := by rw [g2]; simp; omega
    refine ⟨sz' (by omega), ?_⟩
    have ez : ((joinL l a).1.length : Int) + (joinL l a).2.1 + (joinL l a).2.2.length = ((i * szL a + szL a : Nat) : Int) := by
      have h3 := szL_join l a
      have h4 : szL (joinL l a) = (joinL l a).1.length + (joinL l a).2.1 + (joinL l a).2.2.length := rfl
      omega
    rw [ez, show (ns.map fun k : Nat => D.int k) ++ [.int ((i * szL a + szL a : Nat) : Int)] = (ns ++ [i * szL a + szL a]).map fun k : Nat => D.int k by simp]
    rw [hIe]; exact ⟨t, joinL l a, ns ++ [i * szL a + szL a], by rw [g1]; rfl, by rw [g2, List.range_succ (n := i + 1), List.map_append]; simp [Nat.succ_mul], by first | rfl | (simp; done), _, _, _, _, _, _, rfl⟩
  · rw [hIe] at hi; obtain ⟨t, l, ns, g1, g2, rfl, x0, x1, x2, x3, x4, x5, rfl⟩ := hi
    rw [rngD_len, show (n : Int).toNat = n from rfl] at g2
    subst g2
    walk_at "QS"
    refine seq_ ?_
    walk_at "QS"
    refine i__law_recipe (by omega) ?_
    walk_at "QS"
    refine i__law_done (p := (Str.ofString "b", recO a)) (by show (recO a).length ≤ _ ∧ _; rw [recO_len]; omega) ?_
    walk_at "QS"
    rw [rec_done a q2]
    refine seq_ ?_
    walk_at "QS"
    refine ⟨sz (by omega), lc_map' D.int (fun x => .str (strI x)) _ (fun x hx G hG => ?_) ?_⟩
    · have := hn.1 x hx
      walk_at "QS"
      exact ⟨log_ok (by omega) (by omega), hG⟩
    walk_at "QS"
    refine ⟨log_ok (by omega) (by omega), ?_⟩
    rw [show a.1.map (fun x => D.str (strI x)) = (a.1.map strI).map .str by rw [List.map_map]; rfl, show ([D.str (Str.ofString "/"), .str (Str.ofString (toString (a.2.1 : Int))), .str (Str.ofString "/")] : List D) = [Str.ofString "/", strI a.2.1, Str.ofString "/"].map .str from rfl]
    refine ⟨_, addM_l (by simp; omega), sz (by omega), lc_map' D.int (fun x => .str (strI x)) _ (fun x hx G hG => ?_) ?_⟩
    · have := hn.2 x hx
      walk_at "QS"
      exact ⟨log_ok (by omega) (by omega), hG⟩
    walk_at "QS"
    rw [show a.2.2.map (fun x => D.str (strI x)) = (a.2.2.map strI).map .str by rw [List.map_map]; rfl]
    refine ⟨_, addM_l (by simp; omega), _, rfl, ?_, ?_⟩
    · have b1 := strs_len (r := a.1) fun n h => by have := hn.1 n h; omega
      have b2 := strs_len (r := a.2.2) fun n h => by have := hn.2 n h; omega
      have b3 := strI_len (i := (a.2.1 : Int)) (by omega) (by omega)
      have c4 : (Str.ofString " ").length = 1 := rfl
      have c5 : (Str.ofString "/").length = 1 := rfl
      simp only [List.map_append,List.sum_append,List.length_append,List.length_map,List.map_cons,List.map_nil,List.sum_cons,List.sum_nil,List.length_cons,List.length_nil,c4,c5] at b1 b2 ⊢
      omega
    refine seq_ ?_
    walk_at "QS"
    refine i_change_of ?_
    walk_at "QS"
    refine i_unknown_taken ?_
    walk_at "QS"
    refine i_power_sizes (n := n) ⟨Nat.le_trans (Nat.mul_le_mul (show n ≤ 6 by omega) hz) (by decide), by omega⟩ ?_
    walk_at "QS"
    refine i_kept_least (by omega) ?_
    walk_at "QS"
    refine i_least_kept_number ?_
    walk_at "QS"
    refine i_lots_line (by omega) hn ?_
    walk_at "QS"
    refine seq_ ?_
    walk_at "QS"
    have k1 := doneL_len a ts
    refine headO (A := _) ?_
    refine headO (A := _) ?_
    rw [List.map_map]
    refine i__law_same (by rfl) ?_ ?_ ?_
    · simp only [Dw.plain,plains,Bool.and_true,Bool.true_and,oI_plain]
      exact plains_map fun _ _ => rfl
    · have := pszs_map_le (f := fun k : Nat => D.int ((k * szL a : Nat) : Int)) (l := List.range (n + 1)) (k := 1) fun x _ => by simp [psz]
      rw [List.length_range] at this
      have o1 := oI_psz (doneL a ts).head?
      have o2 := oI_psz a.2.2.head?
      simp only [psz,pszs]; omega
    walk_at "QS"
    exact hR t
theorem i__law_looks_asked {t : TrS} {a : Lt} {R : Rv → Mem → Prop} (hn : NumL a) (hz : szL a ≤ 7) (k : ∀ t' : TrS, R (.d (.bl true)) [t'.m0, t'.m1, t'.m2, t'.m3]) : c__law_looks_asked [.o 3, .d (ltD a)] [t.m0, t.m1, t.m2, t.m3] R := ⟨t, a, rfl, rfl, hn, hz, k⟩
end Lk26
set_option Elab.async false
set_option linter.all false
set_option maxRecDepth 100000
set_option maxHeartbeats 4000000
namespace Lk26
open PySem PySem.Spec PyProof.Rows L2 Dw
local macro_rules | `(tactic| walk_at "CALL") => `(tactic| first | (refine i__law_all (by walk_at "SIDE") (by walk_at "SIDE") ?_; walk_at "QS"; walk_at "GO") | (refine i__law_same (by walk_at "SIDE") (by walk_at "SIDE") (by walk_at "SIDE") ?_; walk_at "QS"; walk_at "GO"))
def c__law_over_asked : Ct := fun aa mm R => ∃ (t : TrS), aa = [.o 3] ∧ mm = [t.m0, t.m1, t.m2, t.m3] ∧ (∀ t' : TrS, R (.d (.bl true)) [t'.m0, t'.m1, t'.m2, t'.m3])
theorem ln__law_over_asked : ∀ rs M R, c__law_over_asked rs M R → rs.length = 1 ∧ M.length = 4 := by
  rintro aa mm R ⟨t, rfl, rfl, _⟩; exact ⟨rfl, rfl⟩
set_option maxHeartbeats 8000000 in
theorem ok__law_over_asked {P : Program} {w : World} {K : PySem.W.Frag} {mg : Str → Option Value} {base : Heap} (T : Tx K mg) : FnOk P w K mg base CX0 5 T.a__law_over_asked T.fd__law_over_asked ["trough"] (spD K c__law_over_asked) := by
  refine fnD (n0 := 4) T.F__law_over_asked sc__law_over_asked ln__law_over_asked fun cdv A outer s H E hr => ⟨_, (qss_cons (qs_set (i := 1) sc__law_over_asked.nd rfl (.inl rfl) (qe_ix (qe_tup (qa_cons (qe_tup qa_nil) (qa_cons (qe_tup (qa_cons qe_int qa_nil)) (qa_cons (qe_tup (qa_cons qe_int (qa_cons qe_int qa_nil))) (qa_cons (qe_tup (qa_cons qe_int (qa_cons qe_int (qa_cons qe_int qa_nil)))) (qa_cons (qe_tup (qa_cons qe_int (qa_cons qe_int (qa_cons qe_int (qa_cons qe_int qa_nil))))) qa_nil)))))) (qe_callG 4 (ok__law_habit T) (hr.mono (by decide)) (by rfl) T.g__law_habit T.F__law_habit.kp (b__law_habit T) (qa_cons (qv 0) (qa_cons qe_int (qa_cons qe_int qa_nil)))))) (qss_cons (qs_par3 (i := 2) (j := 3) (l := 4) rfl sc__law_over_asked.nd rfl rfl rfl (by decide) (by decide) (by decide) rfl rfl rfl (qa_cons (qe_callG 4 (ok__law_habit T) (hr.mono (by decide)) (by rfl) T.g__law_habit T.F__law_habit.kp (b__law_habit T) (qa_cons (qv 0) (qa_cons qe_int (qa_cons qe_int qa_nil)))) (qa_cons (qe_callG 4 (ok__law_habit T) (hr.mono (by decide)) (by rfl) T.g__law_habit T.F__law_habit.kp (b__law_habit T) (qa_cons (qv 0) (qa_cons qe_int (qa_cons qe_int qa_nil)))) (qa_cons (qe_callG 4 (ok__law_habit T) (hr.mono (by decide)) (by rfl) T.g__law_habit T.F__law_habit.kp (b__law_habit T) (qa_cons (qv 0) (qa_cons qe_int (qa_cons qe_int qa_nil)))) qa_nil))) (by rfl)) (qss_cons (qs_set (i := 5) sc__law_over_asked.nd rfl (.inl rfl) (qe_call (ok__law_all T) (hr.mono (by decide)) (by rfl) T.g__law_all T.F__law_all.kp (b__law_all T) (qa_cons (qv 1) (qa_cons (qv 2) (qa_cons (qv 3) (qa_cons (qv 4) qa_nil)))))) (qss_one (qs_ret (qe_call (ok__law_same T) (hr.mono (by decide)) (by rfl) T.g__law_same T.F__law_same.kp (b__law_same T) (qa_cons (qe_call (ok__law_heard T) (hr.mono (by decide)) (by rfl) T.g__law_heard T.F__law_heard.kp (b__law_heard T) (qa_cons (qv 1) (qa_cons (qv 2) (qa_cons (qv 3) (qa_cons (qv 4) qa_nil))))) (qa_cons (qe_if (qt_is (qv 5) qe_non) (qe_tup (qa_cons qe_str (qa_cons qe_str qa_nil))) (qe_tup (qa_cons qe_str (qa_cons (qv 5) qa_nil)))) qa_nil)))))))), fun rs M R h => ?_⟩
  obtain ⟨t, rfl, rfl, hR⟩ := h
  walk_at "GO"
  refine i__law_habit (by decide) (by decide) fun w w0 w1 t => ?_
  walk_at "QS"
  obtain ⟨ns, e, hn, hn4⟩ : ∃ ns, atI [D.tup [], .tup [.int 0], .tup [.int 1, .int 2], .tup [.int 5, .int 7, .int 999], .tup [.int 0, .int 3, .int 4, .int 998]] w = some (.tup (ns.map .int)) ∧ ns ∈ NS ∧ ns.length ≤ 4 := by
    rcases (by omega : w = 0 ∨ w = 1 ∨ w = 2 ∨ w = 3 ∨ w = 4) with rfl | rfl | rfl | rfl | rfl
    · exact ⟨[], rfl, by decide, by decide⟩
    · exact ⟨[0], rfl, by decide, by decide⟩
    · exact ⟨[1, 2], rfl, by decide, by decide⟩
    · exact ⟨[5, 7, 999], rfl, by decide, by decide⟩
    · exact ⟨[0, 3, 4, 998], rfl, by decide, by decide⟩
  rw [e]
  walk_at "QS"
  refine seq_ ?_
  walk_at "QS"
  refine i__law_habit (by decide) (by decide) fun a a0 a1 t => ?_
  walk_at "QS"
  refine i__law_habit (by decide) (by decide) fun n n0 n1 t => ?_
  walk_at "QS"
  refine i__law_habit (by decide) (by decide) fun b b0 b1 t => ?_
  walk_at "QS"
  obtain ⟨a, rfl⟩ : ∃ k : Nat, a = k := ⟨a.toNat, by omega⟩
  obtain ⟨n, rfl⟩ : ∃ k : Nat, n = k := ⟨n.toNat, by omega⟩
  obtain ⟨b, rfl⟩ : ∃ k : Nat, b = k := ⟨b.toNat, by omega⟩
  refine seq_ ?_
  walk_at "QS"
  refine i__law_all ⟨hn, hn4⟩ ⟨by omega, by omega, by omega⟩ ?_
  walk_at "QS"
  refine ⟨ns, a, n, b, rfl, rfl, ⟨hn, by omega, by omega, by omega⟩, ?_⟩
  by_cases hc : 600 < firstsN ns.length a n * rsF ns.length b
  · rw [allD, if_pos hc, allH, if_pos hc]
    walk_at "QS"
    refine i__law_same (by rfl) (by rfl) (by decide) ?_
    walk_at "QS"
    exact hR t
  · rw [allD, if_neg hc, allH, if_neg hc]
    walk_at "QS"
    have hl := prg_len (d := n) hn (show a ≤ 5 by omega) (show b ≤ 5 by omega)
    refine i__law_same (by rfl) ?_ ?_ ?_
    · simp only [Dw.plain,plains,Bool.and_true,Bool.true_and]
      exact plains_map fun l _ => ltD_plain l
    · have := pszs_map_le (f := ltD) (l := srtL (prgL ns a n b)) (k := 14) fun l hl => by
        have h1 := prg_sz ((srtL_perm _).mem_iff.mp hl)
        have h2 := ltD_psz l
        omega
      rw [(srtL_perm _).length_eq] at this
      simp only [psz,pszs]; omega
    walk_at "QS"
    exact hR t
theorem i__law_over_asked {t : TrS} {R : Rv → Mem → Prop}  (k : ∀ t' : TrS, R (.d (.bl true)) [t'.m0, t'.m1, t'.m2, t'.m3]) : c__law_over_asked [.o 3] [t.m0, t.m1, t.m2, t.m3] R := ⟨t, rfl, rfl, k⟩
end Lk26
set_option Elab.async false
set_option linter.all false
set_option maxRecDepth 100000
set_option maxHeartbeats 4000000
namespace Lk26
open PySem PySem.Spec PyProof.Rows L2 Dw
local macro_rules | `(tactic| walk_at "CALL") => `(tactic| first | (refine i__law_same (by walk_at "SIDE") (by walk_at "SIDE") (by walk_at "SIDE") ?_; walk_at "QS"; walk_at "GO") | (refine i_lots_commute (by walk_at "SIDE") ?_; walk_at "QS"; walk_at "GO") | (refine i_change_of  ?_; walk_at "QS"; walk_at "GO") | (refine i_unknown_taken  ?_; walk_at "QS"; walk_at "GO") | (refine i_power_sizes (by walk_at "SIDE") ?_; walk_at "QS"; walk_at "GO") | (refine i_is_idle_lots (by walk_at "SIDE") ?_; walk_at "QS"; walk_at "GO") | (refine i_divides_right (by walk_at "SIDE") (by walk_at "SIDE") ?_; walk_at "QS"; walk_at "GO") | (refine i_divides_left (by walk_at "SIDE") (by walk_at "SIDE") ?_; walk_at "QS"; walk_at "GO") | (refine i_lots_line (by walk_at "SIDE") (by walk_at "SIDE") ?_; walk_at "QS"; walk_at "GO") | (refine i_joined_all (by walk_at "SIDE") ?_; walk_at "QS"; walk_at "GO") | (refine i_product_table (by walk_at "SIDE") ?_; walk_at "QS"; walk_at "GO") | (refine i_commuting_pairs (by walk_at "SIDE") ?_; walk_at "QS"; walk_at "GO") | (refine i_kept_least (by walk_at "SIDE") ?_; walk_at "QS"; walk_at "GO") | (refine i_least_kept_number  ?_; walk_at "QS"; walk_at "GO"))
def c__law_hand : Ct := fun aa mm R => aa = [] ∧ mm = [] ∧ (R (.d (.bl true)) [])
theorem ln__law_hand : ∀ rs M R, c__law_hand rs M R → rs.length = 0 ∧ M.length = 0 := by
  rintro aa mm R ⟨rfl, rfl, _⟩; exact ⟨rfl, rfl⟩
set_option maxHeartbeats 8000000 in
theorem ok__law_hand {P : Program} {w : World} {K : PySem.W.Frag} {mg : Str → Option Value} {base : Heap} (T : Tx K mg) : FnOk P w K mg base CX0 5 T.a__law_hand T.fd__law_hand [] (spD K c__law_hand) := by
  refine fnD (n0 := 0) T.F__law_hand sc__law_hand ln__law_hand fun cdv A outer s H E hr => ⟨_, (qss_cons (qs_set (i := 0) sc__law_hand.nd rfl (.inl rfl) (qe_tup (qa_cons (qe_tup (qa_cons qe_int (qa_cons qe_int qa_nil))) (qa_cons qe_int (qa_cons (qe_tup qa_nil) qa_nil))))) (qss_cons (qs_set (i := 1) sc__law_hand.nd rfl (.inl rfl) (qe_tup (qa_cons (qe_len (by rfl) T.n_len (qa_cons (qe_callX (ok_all_lots_over T) lk_none (hr.mono (by decide)) (by rfl) T.g_all_lots_over T.F_all_lots_over.kp (b_all_lots_over T) (qa_cons (qe_tup (qa_cons qe_int (qa_cons qe_int qa_nil))) (qa_cons qe_int (qa_cons qe_int (qa_cons qe_int qa_nil))))) qa_nil)) (qa_cons (qe_callK0 (ok_lots_commute T) (hr.mono (by decide)) (by rfl) T.g_lots_commute T.F_lots_commute.kp (kb_lots_commute_0_other_one T) (qk_cons (qe_tup (qa_cons (qe_tup qa_nil) (qa_cons qe_int (qa_cons (qe_tup (qa_cons qe_int qa_nil)) qa_nil)))) (qk_cons (qe_tup (qa_cons (qe_tup qa_nil) (qa_cons qe_int (qa_cons (qe_tup qa_nil) qa_nil)))) qk_nil))) qa_nil)))) (qss_cons (qs_set (i := 1) sc__law_hand.nd rfl (.inl rfl) (qe_add (qv 1) (qe_tup (qa_cons (qe_callK0 (ok_is_idle_lots T) (hr.mono (by decide)) (by rfl) T.g_is_idle_lots T.F_is_idle_lots.kp (kb_is_idle_lots_0_lots T) (qk_cons (qe_tup (qa_cons (qe_tup qa_nil) (qa_cons qe_int (qa_cons (qe_tup qa_nil) qa_nil)))) qk_nil)) (qa_cons (qe_callK0 (ok_divides_left T) (hr.mono (by decide)) (by rfl) T.g_divides_left T.F_divides_left.kp (kb_divides_left_0_rows_goal_one T) (qk_cons (qe_tup (qa_cons (qe_tup (qa_cons (qe_tup qa_nil) (qa_cons qe_int (qa_cons (qe_tup qa_nil) qa_nil)))) (qa_cons (qe_tup (qa_cons (qe_tup qa_nil) (qa_cons qe_int (qa_cons (qe_tup qa_nil) qa_nil)))) qa_nil))) (qk_cons (qe_tup (qa_cons (qe_tup (qa_cons qe_int qa_nil)) (qa_cons qe_int (qa_cons (qe_tup qa_nil) qa_nil)))) (qk_cons (qe_tup (qa_cons (qe_tup qa_nil) (qa_cons qe_int (qa_cons (qe_tup (qa_cons qe_int qa_nil)) qa_nil)))) qk_nil)))) qa_nil))))) (qss_cons (qs_if (qt_not (qt_val (qe_call (ok__law_same T) (hr.mono (by decide)) (by rfl) T.g__law_same T.F__law_same.kp (b__law_same T) (qa_cons (qv 1) (qa_cons (qe_tup (qa_cons qe_int (qa_cons qe_bl (qa_cons qe_bl (qa_cons (qe_tup (qa_cons (qe_tup qa_nil) (qa_cons qe_int (qa_cons (qe_tup qa_nil) qa_nil)))) qa_nil))))) qa_nil))))) (qss_one (qs_ret qe_bl)) qss_nil) (qss_cons (qs_set (i := 1) sc__law_hand.nd rfl (.inl rfl) (qe_tup (qa_cons (qe_callK0 (ok_change_of T) (hr.mono (by decide)) (by rfl) T.g_change_of T.F_change_of.kp (kb_change_of_0_lots T) (qk_cons (qv 0) qk_nil)) (qa_cons (qe_callK0 (ok_unknown_taken T) (hr.mono (by decide)) (by rfl) T.g_unknown_taken T.F_unknown_taken.kp (kb_unknown_taken_0_lots T) (qk_cons (qe_tup (qa_cons (qe_tup (qa_cons qe_int qa_nil)) (qa_cons qe_int (qa_cons (qe_tup (qa_cons qe_int qa_nil)) qa_nil)))) qk_nil)) (qa_cons (qe_callK0 (ok_power_sizes T) (hr.mono (by decide)) (by rfl) T.g_power_sizes T.F_power_sizes.kp (kb_power_sizes_0_times_lots T) (qk_cons qe_int (qk_cons (qe_tup (qa_cons (qe_tup qa_nil) (qa_cons qe_int (qa_cons (qe_tup (qa_cons qe_int qa_nil)) qa_nil)))) qk_nil))) qa_nil))))) (qss_cons (qs_set (i := 1) sc__law_hand.nd rfl (.inl rfl) (qe_add (qv 1) (qe_tup (qa_cons (qe_callK0 (ok_lots_line T) (hr.mono (by decide)) (by rfl) T.g_lots_line T.F_lots_line.kp (kb_lots_line_0_lots T) (qk_cons (qv 0) qk_nil)) (qa_cons (qe_call (ok_lots_line T) (hr.mono (by decide)) (by rfl) T.g_lots_line T.F_lots_line.kp (b_lots_line T) (qa_cons (qe_tup (qa_cons (qe_tup qa_nil) (qa_cons qe_int (qa_cons (qe_tup (qa_cons qe_int (qa_cons qe_int qa_nil))) qa_nil)))) qa_nil)) (qa_cons (qe_callK0 (ok_joined_all T) (hr.mono (by decide)) (by rfl) T.g_joined_all T.F_joined_all.kp (kb_joined_all_0_rows T) (qk_cons (qe_tup qa_nil) qk_nil)) (qa_cons (qe_call (ok_product_table T) (hr.mono (by decide)) (by rfl) T.g_product_table T.F_product_table.kp (b_product_table T) (qa_cons (qe_tup qa_nil) qa_nil)) (qa_cons (qe_callK0 (ok_commuting_pairs T) (hr.mono (by decide)) (by rfl) T.g_commuting_pairs T.F_commuting_pairs.kp (kb_commuting_pairs_0_rows T) (qk_cons (qe_tup qa_nil) qk_nil)) qa_nil)))))))) (qss_cons (qs_if (qt_not (qt_val (qe_call (ok__law_same T) (hr.mono (by decide)) (by rfl) T.g__law_same T.F__law_same.kp (b__law_same T) (qa_cons (qv 1) (qa_cons (qe_tup (qa_cons qe_int (qa_cons qe_int (qa_cons (qe_tup (qa_cons qe_int (qa_cons qe_int (qa_cons qe_int (qa_cons qe_int qa_nil))))) (qa_cons qe_str (qa_cons qe_str (qa_cons (qe_tup (qa_cons (qe_tup qa_nil) (qa_cons qe_int (qa_cons (qe_tup qa_nil) qa_nil)))) (qa_cons (qe_tup qa_nil) (qa_cons (qe_tup qa_nil) qa_nil))))))))) qa_nil))))) (qss_one (qs_ret qe_bl)) qss_nil) (qss_cons (qs_set (i := 1) sc__law_hand.nd rfl (.inl rfl) (qe_tup (qa_cons (qe_call (ok_is_idle_lots T) (hr.mono (by decide)) (by rfl) T.g_is_idle_lots T.F_is_idle_lots.kp (b_is_idle_lots T) (qa_cons (qe_tup (qa_cons (qe_tup (qa_cons qe_int qa_nil)) (qa_cons qe_int (qa_cons (qe_tup qa_nil) qa_nil)))) qa_nil)) (qa_cons (qe_callK0 (ok_divides_right T) (hr.mono (by decide)) (by rfl) T.g_divides_right T.F_divides_right.kp (kb_divides_right_0_one_goal_rows T) (qk_cons (qe_tup (qa_cons (qe_tup qa_nil) (qa_cons qe_int (qa_cons (qe_tup qa_nil) qa_nil)))) (qk_cons (qe_tup (qa_cons (qe_tup qa_nil) (qa_cons qe_int (qa_cons (qe_tup qa_nil) qa_nil)))) (qk_cons (qe_tup (qa_cons (qe_tup (qa_cons (qe_tup qa_nil) (qa_cons qe_int (qa_cons (qe_tup (qa_cons qe_int qa_nil)) qa_nil)))) qa_nil)) qk_nil)))) qa_nil)))) (qss_cons (qs_set (i := 1) sc__law_hand.nd rfl (.inl rfl) (qe_add (qv 1) (qe_tup (qa_cons (qe_callK0 (ok_kept_least T) (hr.mono (by decide)) (by rfl) T.g_kept_least T.F_kept_least.kp (kb_kept_least_0_things_lots T) (qk_cons (qe_tup qa_nil) (qk_cons (qe_tup (qa_cons (qe_tup qa_nil) (qa_cons qe_int (qa_cons (qe_tup (qa_cons qe_int qa_nil)) qa_nil)))) qk_nil))) (qa_cons (qe_call (ok_kept_least T) (hr.mono (by decide)) (by rfl) T.g_kept_least T.F_kept_least.kp (b_kept_least T) (qa_cons (qe_tup (qa_cons (qe_tup qa_nil) (qa_cons qe_int (qa_cons (qe_tup qa_nil) qa_nil)))) (qa_cons (qe_tup (qa_cons qe_int qa_nil)) qa_nil))) (qa_cons (qe_callK0 (ok_least_kept_number T) (hr.mono (by decide)) (by rfl) T.g_least_kept_number T.F_least_kept_number.kp (kb_least_kept_number_0_lots T) (qk_cons (qv 0) qk_nil)) qa_nil)))))) (qss_cons (qs_if (qt_not (qt_val (qe_call (ok__law_same T) (hr.mono (by decide)) (by rfl) T.g__law_same T.F__law_same.kp (b__law_same T) (qa_cons (qv 1) (qa_cons (qe_tup (qa_cons qe_bl (qa_cons qe_non (qa_cons qe_int (qa_cons qe_non (qa_cons qe_non qa_nil)))))) qa_nil))))) (qss_one (qs_ret qe_bl)) qss_nil) (qss_cons (qs_set (i := 1) sc__law_hand.nd rfl (.inl rfl) (qe_tup (qa_cons (qe_len (by rfl) T.n_len (qa_cons (qe_callX (ok_all_lots_over T) lk_none (hr.mono (by decide)) (by rfl) T.g_all_lots_over T.F_all_lots_over.kp (b_all_lots_over T) (qa_cons (qe_tup qa_nil) (qa_cons qe_int (qa_cons qe_int (qa_cons qe_int qa_nil))))) qa_nil)) (qa_cons (qe_call (ok__law_heard T) (hr.mono (by decide)) (by rfl) T.g__law_heard T.F__law_heard.kp (b__law_heard T) (qa_cons (qe_tup qa_nil) (qa_cons qe_int (qa_cons qe_int (qa_cons qe_int qa_nil))))) (qa_cons (qe_len (by rfl) T.n_len (qa_cons (qe_callX (ok_all_lots_over T) lk_none (hr.mono (by decide)) (by rfl) T.g_all_lots_over T.F_all_lots_over.kp (b_all_lots_over T) (qa_cons (qe_tup (qa_cons qe_int qa_nil)) (qa_cons qe_int (qa_cons qe_int (qa_cons qe_int qa_nil))))) qa_nil)) (qa_cons (qe_call (ok__law_heard T) (hr.mono (by decide)) (by rfl) T.g__law_heard T.F__law_heard.kp (b__law_heard T) (qa_cons (qe_tup (qa_cons qe_int qa_nil)) (qa_cons qe_int (qa_cons qe_int (qa_cons qe_int qa_nil))))) (qa_cons (qe_call (ok__law_heard T) (hr.mono (by decide)) (by rfl) T.g__law_heard T.F__law_heard.kp (b__law_heard T) (qa_cons (qe_tup (qa_cons qe_int (qa_cons qe_int (qa_cons qe_int (qa_cons qe_int (qa_cons qe_int qa_nil)))))) (qa_cons qe_int (qa_cons qe_int (qa_cons qe_int qa_nil))))) qa_nil))))))) (qss_one (qs_ret (qe_call (ok__law_same T) (hr.mono (by decide)) (by rfl) T.g__law_same T.F__law_same.kp (b__law_same T) (qa_cons (qv 1) (qa_cons (qe_tup (qa_cons qe_int (qa_cons (qe_tup (qa_cons qe_str (qa_cons qe_str qa_nil))) (qa_cons qe_int (qa_cons (qe_tup (qa_cons qe_str (qa_cons qe_str qa_nil))) (qa_cons (qe_tup (qa_cons qe_str (qa_cons qe_str qa_nil))) qa_nil)))))) qa_nil)))))))))))))))), fun rs M R h => ?_⟩
  obtain ⟨rfl, rfl, hR⟩ := h
  walk_at "GO"
  have c1 : (prgL [1, 2] 1 1 1).length = 12 := by rw [prg_len (by decide) (by decide) (by decide)]; decide
  refine ⟨[1, 2], 1, 1, 1, rfl, rfl, by decide, fun _ => ?_, fun h => absurd h (by decide)⟩
  simp_all [List.length_map, (srtL_perm _).length_eq, c1]
  refine i_lots_commute (a := ([], 1, [])) (b := ([], 0, [4])) (by decide) ?_
  walk_at "QS"
  refine seq_ ?_
  walk_at "QS"
  refine i_is_idle_lots (a := l0) (by decide) ?_
  walk_at "QS"
  refine i_divides_left (a := ([], 0, [4])) (g := ([4], 1, [])) (ls := [l0, ([], 1, [])]) (by unfold rowsOk; decide) (by decide) ?_
  walk_at "QS"
  walk_at "ADD"
  refine seq_ ?_
  walk_at "QS"
  refine i__law_same (by rfl) (by rfl) (by decide) ?_
  walk_at "QS"
  refine seq_ ?_
  walk_at "QS"
  refine i_change_of (a := ([3, 5], 2, [])) ?_
  walk_at "QS"
  refine i_unknown_taken (a := ([3], 2, [5])) ?_
  walk_at "QS"
  refine i_power_sizes (a := ([], 1, [4])) (n := 3) (by decide) ?_
  walk_at "QS"
  refine seq_ ?_
  walk_at "QS"
  refine i_lots_line (a := ([3, 5], 2, [])) (by decide) (by unfold NumL; decide) ?_
  walk_at "QS"
  refine i_lots_line (a := ([], 0, [4, 9])) (by decide) (by unfold NumL; decide) ?_
  walk_at "QS"
  refine i_joined_all (ls := []) (by unfold rowsOk; decide) ?_
  walk_at "QS"
  refine i_product_table (ls := []) (by unfold rowsOk; decide) ?_
  walk_at "QS"
  refine i_commuting_pairs (ls := []) (by unfold rowsOk; decide) ?_
  walk_at "QS"
  walk_at "ADD"
  have h1 : lineL ([3, 5], 2, []) = Str.ofString "3 5 / 2 /" := by decide +kernel
  have h2 : lineL ([], 0, [4, 9]) = Str.ofString "/ 0 / 4 9" := by decide +kernel
  rw [h1, h2]
  refine seq_ ?_
  walk_at "QS"
  refine i__law_same (by rfl) (by rfl) (by decide) ?_
  walk_at "QS"
  refine seq_ ?_
  walk_at "QS"
  refine i_is_idle_lots (a := ([999], 1, [])) (by decide) ?_
  walk_at "QS"
  refine i_divides_right (a := ([], 1, [])) (g := ([], 2, [])) (ls := [([], 0, [1])]) (by unfold rowsOk; decide) (by decide) ?_
  walk_at "QS"
  refine seq_ ?_
  walk_at "QS"
  refine i_kept_least (a := ([], 1, [4])) (ts := []) (by decide) ?_
  walk_at "QS"
  refine i_kept_least (a := ([], 1, [])) (ts := [3]) (by decide) ?_
  walk_at "QS"
  refine i_least_kept_number (a := ([3, 5], 2, [])) ?_
  walk_at "QS"
  walk_at "ADD"
  refine seq_ ?_
  walk_at "QS"
  refine i__law_same (by rfl) (by rfl) (by decide) ?_
  walk_at "QS"
  refine seq_ ?_
  walk_at "QS"
  have d1 : ¬ 600 < firstsN ([] : List Int).length 3 599 * rsF ([] : List Int).length 2 := by decide +kernel
  have d2 : 600 < firstsN ([] : List Int).length 3 600 * rsF ([] : List Int).length 2 := by decide +kernel
  have d3 : ¬ 600 < firstsN [1].length 0 99 * rsF [1].length 5 := by decide +kernel
  have d4 : 600 < firstsN [1].length 0 100 * rsF [1].length 5 := by decide +kernel
  have d5 : 600 < firstsN [1, 2, 3, 4, 5].length 3 3 * rsF [1, 2, 3, 4, 5].length 3 := by decide +kernel
  have c2 : (prgL [] 3 599 2).length = 600 := by rw [prg_len (by decide) (by decide) (by decide)]; decide +kernel
  have c3 : (prgL [1] 0 99 5).length = 600 := by rw [prg_len (by decide) (by decide) (by decide)]; decide +kernel
  refine ⟨[], 3, 599, 2, rfl, rfl, by decide, fun _ => ?_, fun h => absurd h d1⟩
  simp_all [List.length_map, (srtL_perm _).length_eq, c2]
  refine ⟨[], 3, 600, 2, rfl, rfl, by decide, ?_⟩
  rw [show allH [] 3 600 2 = .tup [.str (Str.ofString "call"), .str (Str.ofString "many")] from if_pos d2]
  walk_at "QS"
  refine ⟨[1], 0, 99, 5, rfl, rfl, by decide, fun _ => ?_, fun h => absurd h d3⟩
  simp_all [List.length_map, (srtL_perm _).length_eq, c3]
  refine ⟨[1], 0, 100, 5, rfl, rfl, by decide, ?_⟩
  rw [show allH [1] 0 100 5 = .tup [.str (Str.ofString "call"), .str (Str.ofString "many")] from if_pos d4]
  walk_at "QS"
  refine ⟨[1, 2, 3, 4, 5], 3, 3, 3, rfl, rfl, by decide, ?_⟩
  rw [show allH [1, 2, 3, 4, 5] 3 3 3 = .tup [.str (Str.ofString "call"), .str (Str.ofString "many")] from if_pos d5]
  walk_at "QS"
  refine i__law_same (by rfl) (by rfl) (by decide) ?_
  walk_at "QS"
  exact hR
theorem i__law_hand  {R : Rv → Mem → Prop}  (k : R (.d (.bl true)) []) : c__law_hand [] [] R := ⟨rfl, rfl, k⟩
end Lk26
set_option Elab.async false
set_option linter.all false
set_option maxRecDepth 100000
set_option maxHeartbeats 4000000
namespace Lk26
open PySem PySem.Spec PyProof.Rows L2 Dw
local macro_rules | `(tactic| walk_at "CALL") => `(tactic| first | (refine i__law_tables_asked (by walk_at "SIDE") (by walk_at "SIDE") (fun _ => ?_); walk_at "QS"; walk_at "GO") | (refine i__law_hand  ?_; walk_at "QS"; walk_at "GO") | (refine i__law_looks_asked (by walk_at "SIDE") (by walk_at "SIDE") (fun _ => ?_); walk_at "QS"; walk_at "GO") | (refine i__law_over_asked  (fun _ => ?_); walk_at "QS"; walk_at "GO"))
def c_law : Ct := fun rs M R => ∃ ns : List Int, rs = [.d (.lst (ns.map .int))] ∧ M = [] ∧ ns.length ≤ 63 ∧ R (.d (.bl true)) []
theorem ln_law : ∀ rs M R, c_law rs M R → rs.length = 1 ∧ M.length = 0 := by
  rintro rs M R ⟨ns, rfl, rfl, _⟩; exact ⟨rfl, rfl⟩
set_option maxHeartbeats 8000000 in
theorem ok_law {P : Program} {w : World} {K : PySem.W.Frag} {mg : Str → Option Value} {base : Heap} (T : Tx K mg) : FnOk P w K mg base CX0 6 T.a_law T.fd_law ["script"] (spD K c_law) := by
  refine fnD (n0 := 0) T.F_law sc_law ln_law fun cdv A outer s H E hr => ⟨_, (qss_cons (qs_set (i := 1) sc_law.nd rfl (.inr rfl) (qe_call (ok__law_trough T) (hr.mono (by decide)) (by rfl) T.g__law_trough T.F__law_trough.kp (b__law_trough T) (qa_cons (qv 0) qa_nil))) (qss_cons (qs_if (qt_not (qt_val (qe_call0 (ok__law_hand T) (hr.mono (by decide)) (by rfl) T.g__law_hand T.F__law_hand.kp (b__law_hand T)))) (qss_one (qs_ret qe_bl)) qss_nil) (qss_cons (qs_for PassesOwn.never rfl (qi_range1 (by rfl) T.n_range (qa_cons qe_int qa_nil)) (qg_name (i := 2) sc_law.nd rfl (by first | exact .inl rfl | exact .inr rfl)) (qss_cons (qs_set (i := 3) sc_law.nd rfl (.inl rfl) (qe_tuple (by rfl) T.n_tuple (qa_cons (qe_lc rfl sc_law.nd (qi_range1 (by rfl) T.n_range (qa_cons (qe_add qe_int (qe_callG 4 (ok__law_habit T) (hr.mono (by decide)) (by rfl) T.g__law_habit T.F__law_habit.kp (b__law_habit T) (qa_cons (qv 1) (qa_cons qe_int (qa_cons qe_int qa_nil))))) qa_nil)) (blkOk_by (own := [("turn", 4)]) (N := ["script", "trough", "lap", "rows", "turn"]) (sc := defScope s_law) (by decide +kernel)) (by decide) (fun _ _ _ _ _ => (qg_name (i := 4) sc_law.nd rfl (by first | exact .inl rfl | exact .inr rfl))) (fun _ _ _ _ _ => qts_nil) (fun _ _ _ _ _ => (qe_callG 4 (ok__law_some T) (hr.mono (by decide)) (by rfl) T.g__law_some T.F__law_some.kp (b__law_some T) (qa_cons (qv 1) qa_nil)))) qa_nil))) (qss_one (qs_if (QW.t (qw_or (qt_not (qt_val (qe_callG 4 (ok__law_tables_asked T) (hr.mono (by decide)) (by rfl) T.g__law_tables_asked T.F__law_tables_asked.kp (b__law_tables_asked T) (qa_cons (qv 1) (qa_cons (qv 3) qa_nil))))) (qw_or (qt_not (qt_val (qe_callG 4 (ok__law_looks_asked T) (hr.mono (by decide)) (by rfl) T.g__law_looks_asked T.F__law_looks_asked.kp (b__law_looks_asked T) (qa_cons (qv 1) (qa_cons (qe_ix (qv 3) qe_int) qa_nil))))) (qw_or1 (qt_not (qt_val (qe_callG 4 (ok__law_over_asked T) (hr.mono (by decide)) (by rfl) T.g__law_over_asked T.F__law_over_asked.kp (b__law_over_asked T) (qa_cons (qv 1) qa_nil)))))))) (qss_one (qs_ret qe_bl)) qss_nil)))) (qss_cons (qs_if (qt_ne (u64 hr) (qe_callG 4 (ok__law_ladle T) (hr.mono (by decide)) (by rfl) T.g__law_ladle T.F__law_ladle.kp (b__law_ladle T) (qa_cons (qv 1) (qa_cons qe_int qa_nil))) qe_int) (qss_one (qs_ret qe_bl)) qss_nil) (qss_one (qs_ret (qe_callG 4 (ok__law_tables_asked T) (hr.mono (by decide)) (by rfl) T.g__law_tables_asked T.F__law_tables_asked.kp (b__law_tables_asked T) (qa_cons (qv 1) (qa_cons (qe_tuple (by rfl) T.n_tuple (qa_cons (qe_lc rfl sc_law.nd (qi_range1 (by rfl) T.n_range (qa_cons qe_int qa_nil)) (blkOk_by (own := [("turn", 4)]) (N := ["script", "trough", "lap", "rows", "turn"]) (sc := defScope s_law) (by decide +kernel)) (by decide) (fun _ _ _ _ _ => (qg_name (i := 4) sc_law.nd rfl (by first | exact .inl rfl | exact .inr rfl))) (fun _ _ _ _ _ => qts_nil) (fun _ _ _ _ _ => (qe_callG 4 (ok__law_some T) (hr.mono (by decide)) (by rfl) T.g__law_some T.F__law_some.kp (b__law_some T) (qa_cons (qv 1) qa_nil)))) qa_nil)) qa_nil))))))))), fun rs M R h => ?_⟩
  obtain ⟨ns, rfl, rfl, hn, hR⟩ := h
  refine seq_ ?_
  walk_at "QS"
  refine ⟨ns, rfl, rfl, hn, fun t => ?_⟩
  walk_at "QS"
  refine seq_ ?_
  walk_at "QS"
  refine i__law_hand ?_
  walk_at "QS"
  refine seq_ ?_
  walk_at "QS"
  obtain ⟨Ia, hIa⟩ : ∃ I : Nat → Env' → Mem → Prop, I = fun i env M => ∃ (t : TrS), M = [t.m0, t.m1, t.m2, t.m3] ∧ ∃ (x2 : Option Rv) (x3 : Option Rv) (x4 : Option Rv), env = [some (.d (.lst (ns.map .int))), some (.o 3), x2, x3, x4] := ⟨_, rfl⟩
  refine for_0 Ia (by rw [hIa]; exact ⟨t, rfl, _, _, _, rfl⟩) (fun i d env M hd hi => ?_) (fun env M hi => ?_)
  · rw [hIa] at hi; obtain ⟨t, rfl, x0, x1, x2, rfl⟩ := hi
    refine seq_ ?_
    walk_at "QS"
    refine i__law_habit (by decide) (by decide) fun w w0 w1 t => ?_
    walk_at "QS"
    refine ⟨by omega, by omega, sz (by rw [rngD_len]; omega), ?_⟩
    refine lc_all ltD (fun _ l => NumL l ∧ szL l ≤ 7) Jt ⟨t, rfl⟩ (fun i d M hd hJ G hG => ?_) (fun ls M hl hw hJ => ?_)
    · obtain ⟨t, rfl⟩ := hJ
      obtain ⟨hi, rfl⟩ := rngD_get hd
      walk_at "QS"
      refine i__law_some fun l hn hz t => ?_
      walk_at "QS"
      exact hG l _ ⟨hn, hz⟩ ⟨t, rfl⟩
    obtain ⟨t, rfl⟩ := hJ
    rw [rngD_len] at hl
    have hws : ∀ l ∈ ls, NumL l ∧ szL l ≤ 7 := fun l hm => by obtain ⟨k, hk⟩ := List.getElem?_of_mem hm; exact hw k l hk
    walk_at "QS"
    refine i__law_tables_asked (ls := ls) ⟨by omega, by omega⟩ (fun l hl => (hws l hl).2) fun t => ?_
    walk_at "QS"
    cases ls with
    | nil => simp at hl; omega
    | cons l ls =>
      have hl := hws l List.mem_cons_self
      simp_all [show atI (l :: ls) 0 = some l from atI_0]
      refine i__law_looks_asked hl.1 hl.2 fun t => ?_
      walk_at "QS"
      refine i__law_over_asked fun t => ?_
      walk_at "QS"
      rw [hIa]; exact ⟨t, by first | rfl | (simp; done), _, _, _, rfl⟩
  · rw [hIa] at hi; obtain ⟨t, rfl, x0, x1, x2, rfl⟩ := hi
    walk_at "QS"
    refine seq_ ?_
    walk_at "QS"
    refine i__law_ladle (by decide) fun r r0 r1 t => ?_
    walk_at "QS"
    by_cases c : r = 2
    · subst c
      walk_at "QS"
      refine ⟨sz (by decide), ?_⟩
      refine lc_all ltD (fun _ l => NumL l ∧ szL l ≤ 7) Jt ⟨t, rfl⟩ (fun i d M hd hJ G hG => ?_) (fun ls M hl hw hJ => ?_)
      · obtain ⟨t, rfl⟩ := hJ
        obtain ⟨hi, rfl⟩ := rngD_get hd
        walk_at "QS"
        refine i__law_some fun l hn hz t => ?_
        walk_at "QS"
        exact hG l _ ⟨hn, hz⟩ ⟨t, rfl⟩
      obtain ⟨t, rfl⟩ := hJ
      rw [rngD_len] at hl
      have hws : ∀ l ∈ ls, NumL l ∧ szL l ≤ 7 := fun l hm => by obtain ⟨k, hk⟩ := List.getElem?_of_mem hm; exact hw k l hk
      walk_at "QS"
      refine i__law_tables_asked (ls := ls) ⟨by omega, by omega⟩ (fun l hl => (hws l hl).2) fun t => ?_
      walk_at "QS"
      exact hR
    · rw [if_pos (by simp [c])]
      exact hR
end Lk26
set_option Elab.async false
set_option linter.all false
set_option maxRecDepth 100000
set_option maxHeartbeats 4000000
namespace Lk26
open PySem PySem.Spec PyProof.Rows L2 Dw
def dI_BadCall : He.DefD := ⟨("BadCall", some "__init__"), "__init__", "BadCall.__init__", defArgs m_BadCall, defBody m_BadCall, defScope m_BadCall, [], []⟩
def d_joined_lots : He.DefD := ⟨("joined_lots", none), "joined_lots", "joined_lots", defArgs s_joined_lots, defBody s_joined_lots, defScope s_joined_lots, [], []⟩
def d_done_by_lots : He.DefD := ⟨("done_by_lots", none), "done_by_lots", "done_by_lots", defArgs s_done_by_lots, defBody s_done_by_lots, defScope s_done_by_lots, [], []⟩
def d_lots_size : He.DefD := ⟨("lots_size", none), "lots_size", "lots_size", defArgs s_lots_size, defBody s_lots_size, defScope s_lots_size, [], []⟩
def d_rising_number : He.DefD := ⟨("rising_number", none), "rising_number", "rising_number", defArgs s_rising_number, defBody s_rising_number, defScope s_rising_number, [], []⟩
def d_all_lots_over : He.DefD := ⟨("all_lots_over", none), "all_lots_over", "all_lots_over", defArgs s_all_lots_over, defBody s_all_lots_over, defScope s_all_lots_over, [], []⟩
def d__rows : He.DefD := ⟨("_rows", none), "_rows", "_rows", defArgs s__rows, defBody s__rows, defScope s__rows, [], []⟩
def d_product_table : He.DefD := ⟨("product_table", none), "product_table", "product_table", defArgs s_product_table, defBody s_product_table, defScope s_product_table, [], []⟩
def d_lots_commute : He.DefD := ⟨("lots_commute", none), "lots_commute", "lots_commute", defArgs s_lots_commute, defBody s_lots_commute, defScope s_lots_commute, [], []⟩
def d_commuting_pairs : He.DefD := ⟨("commuting_pairs", none), "commuting_pairs", "commuting_pairs", defArgs s_commuting_pairs, defBody s_commuting_pairs, defScope s_commuting_pairs, [], []⟩
def d_is_idle_lots : He.DefD := ⟨("is_idle_lots", none), "is_idle_lots", "is_idle_lots", defArgs s_is_idle_lots, defBody s_is_idle_lots, defScope s_is_idle_lots, [], []⟩
def d_divides_left : He.DefD := ⟨("divides_left", none), "divides_left", "divides_left", defArgs s_divides_left, defBody s_divides_left, defScope s_divides_left, [], []⟩
def d_divides_right : He.DefD := ⟨("divides_right", none), "divides_right", "divides_right", defArgs s_divides_right, defBody s_divides_right, defScope s_divides_right, [], []⟩
def d_joined_all : He.DefD := ⟨("joined_all", none), "joined_all", "joined_all", defArgs s_joined_all, defBody s_joined_all, defScope s_joined_all, [], []⟩
def d_change_of : He.DefD := ⟨("change_of", none), "change_of", "change_of", defArgs s_change_of, defBody s_change_of, defScope s_change_of, [], []⟩
def d_unknown_taken : He.DefD := ⟨("unknown_taken", none), "unknown_taken", "unknown_taken", defArgs s_unknown_taken, defBody s_unknown_taken, defScope s_unknown_taken, [], []⟩
def d_power_sizes : He.DefD := ⟨("power_sizes", none), "power_sizes", "power_sizes", defArgs s_power_sizes, defBody s_power_sizes, defScope s_power_sizes, [], []⟩
def d_kept_least : He.DefD := ⟨("kept_least", none), "kept_least", "kept_least", defArgs s_kept_least, defBody s_kept_least, defScope s_kept_least, [], []⟩
def d_least_kept_number : He.DefD := ⟨("least_kept_number", none), "least_kept_number", "least_kept_number", defArgs s_least_kept_number, defBody s_least_kept_number, defScope s_least_kept_number, [], []⟩
def d_lots_line : He.DefD := ⟨("lots_line", none), "lots_line", "lots_line", defArgs s_lots_line, defBody s_lots_line, defScope s_lots_line, [], []⟩
def d__law_trough : He.DefD := ⟨("_law_trough", none), "_law_trough", "_law_trough", defArgs s__law_trough, defBody s__law_trough, defScope s__law_trough, [], []⟩
def d__law_ladle : He.DefD := ⟨("_law_ladle", none), "_law_ladle", "_law_ladle", defArgs s__law_ladle, defBody s__law_ladle, defScope s__law_ladle, [], []⟩
def d__law_habit : He.DefD := ⟨("_law_habit", none), "_law_habit", "_law_habit", defArgs s__law_habit, defBody s__law_habit, defScope s__law_habit, [], []⟩
def d__law_same : He.DefD := ⟨("_law_same", none), "_law_same", "_law_same", defArgs s__law_same, defBody s__law_same, defScope s__law_same, [], []⟩
def d__law_silent : He.DefD := ⟨("_law_silent", none), "_law_silent", "_law_silent", defArgs s__law_silent, defBody s__law_silent, defScope s__law_silent, [], []⟩
def d__law_done : He.DefD := ⟨("_law_done", none), "_law_done", "_law_done", defArgs s__law_done, defBody s__law_done, defScope s__law_done, [], []⟩
def d__law_joined : He.DefD := ⟨("_law_joined", none), "_law_joined", "_law_joined", defArgs s__law_joined, defBody s__law_joined, defScope s__law_joined, [], []⟩
def d__law_lots : He.DefD := ⟨("_law_lots", none), "_law_lots", "_law_lots", defArgs s__law_lots, defBody s__law_lots, defScope s__law_lots, [], []⟩
def d__law_recipe : He.DefD := ⟨("_law_recipe", none), "_law_recipe", "_law_recipe", defArgs s__law_recipe, defBody s__law_recipe, defScope s__law_recipe, [], []⟩
def d__law_things : He.DefD := ⟨("_law_things", none), "_law_things", "_law_things", defArgs s__law_things, defBody s__law_things, defScope s__law_things, [], []⟩
def d__law_rising : He.DefD := ⟨("_law_rising", none), "_law_rising", "_law_rising", defArgs s__law_rising, defBody s__law_rising, defScope s__law_rising, [], []⟩
def d__law_count : He.DefD := ⟨("_law_count", none), "_law_count", "_law_count", defArgs s__law_count, defBody s__law_count, defScope s__law_count, [], []⟩
def d__law_all : He.DefD := ⟨("_law_all", none), "_law_all", "_law_all", defArgs s__law_all, defBody s__law_all, defScope s__law_all, [], []⟩
def d__law_heard : He.DefD := ⟨("_law_heard", none), "_law_heard", "_law_heard", defArgs s__law_heard, defBody s__law_heard, defScope s__law_heard, [], []⟩
def d__law_some : He.DefD := ⟨("_law_some", none), "_law_some", "_law_some", defArgs s__law_some, defBody s__law_some, defScope s__law_some, [], []⟩
def d__law_tables_asked : He.DefD := ⟨("_law_tables_asked", none), "_law_tables_asked", "_law_tables_asked", defArgs s__law_tables_asked, defBody s__law_tables_asked, defScope s__law_tables_asked, [], []⟩
def d__law_looks_asked : He.DefD := ⟨("_law_looks_asked", none), "_law_looks_asked", "_law_looks_asked", defArgs s__law_looks_asked, defBody s__law_looks_asked, defScope s__law_looks_asked, [], []⟩
def d__law_over_asked : He.DefD := ⟨("_law_over_asked", none), "_law_over_asked", "_law_over_asked", defArgs s__law_over_asked, defBody s__law_over_asked, defScope s__law_over_asked, [], []⟩
def d__law_hand : He.DefD := ⟨("_law_hand", none), "_law_hand", "_law_hand", defArgs s__law_hand, defBody s__law_hand, defScope s__law_hand, [], []⟩
def d_law : He.DefD := ⟨("law", none), "law", "law", defArgs s_law, defBody s_law, defScope s_law, [], []⟩
def fn : List He.DefD := ([d_joined_lots, d_done_by_lots, d_lots_size, d_rising_number, d_all_lots_over, d__rows, d_product_table, d_lots_commute, d_commuting_pairs, d_is_idle_lots, d_divides_left, d_divides_right, d_joined_all, d_change_of, d_unknown_taken, d_power_sizes, d_kept_least, d_least_kept_number, d_lots_line, d__law_trough, d__law_ladle, d__law_habit, d__law_same, d__law_silent] : List He.DefD) ++ ([d__law_done, d__law_joined, d__law_lots, d__law_recipe, d__law_things, d__law_rising, d__law_count, d__law_all, d__law_heard, d__law_some, d__law_tables_asked, d__law_looks_asked, d__law_over_asked, d__law_hand, d_law, dI_BadCall] : List He.DefD)
def fa : List He.Fa := ([.glo "joined_lots", .glo "done_by_lots", .glo "lots_size", .glo "rising_number", .glo "all_lots_over", .glo "_rows", .glo "product_table", .glo "lots_commute", .glo "commuting_pairs", .glo "is_idle_lots", .glo "divides_left", .glo "divides_right", .glo "joined_all", .glo "change_of", .glo "unknown_taken", .glo "power_sizes", .glo "kept_least", .glo "least_kept_number", .glo "lots_line", .glo "_law_trough", .glo "_law_ladle", .glo "_law_habit", .glo "_law_same", .glo "_law_silent"] : List He.Fa) ++ ([.glo "_law_done", .glo "_law_joined", .glo "_law_lots", .glo "_law_recipe", .glo "_law_things", .glo "_law_rising", .glo "_law_count", .glo "_law_all", .glo "_law_heard", .glo "_law_some", .glo "_law_tables_asked", .glo "_law_looks_asked", .glo "_law_over_asked", .glo "_law_hand", .glo "law", .free "abs", .free "bool", .free "int", .free "isinstance", .free "len", .free "list", .free "max", .free "min", .free "range"] : List He.Fa) ++ ([.free "sorted", .free "str", .free "sum", .free "tuple", .glo "BadCall", .glo "LikeError"] : List He.Fa)
def xs : List XcD := [⟨"BadCall", ["word"], [("BadCall", true), ("LikeError", true)]⟩]
abbrev Rr : PySem.W.OpenRow := PySem.W.OpenLaw.row PySem.Challenge.rw_likethings_k26_lottables
abbrev hk : PySem.W.Hook := hookY 4 xs fa fn
def ob (s : PySem.W.SharedT) : Bool × He.AlD := obsYG 4 xs fa fn (HandSHeadRun.getT s)
theorem ob_eq (s : PySem.W.SharedT) : ob s = hk.obs s.abs := obsYG_eq (HandSHeadRun.getT_eq s)
def loose : List PySem.Str := (["LikeError", "CallError", "BadCall", "joined_lots", "done_by_lots", "lots_size", "rising_number", "all_lots_over", "_rows", "product_table", "lots_commute", "commuting_pairs", "is_idle_lots", "divides_left", "divides_right", "joined_all", "change_of", "unknown_taken", "power_sizes", "kept_least", "least_kept_number", "lots_line", "_law_trough", "_law_ladle"] : List PySem.Str) ++ (["_law_habit", "_law_same", "_law_silent", "_law_done", "_law_joined", "_law_lots", "_law_recipe", "_law_things", "_law_rising", "_law_count", "_law_all", "_law_heard", "_law_some", "_law_tables_asked", "_law_looks_asked", "_law_over_asked", "_law_hand"] : List PySem.Str)
theorem run (w : World) : HandSHeadRun.RunEq Rr (PySem.W.view Rr.prog [46]) hk ob 4000 loose w := by
  intro os
  kernel_rfl
theorem mkT {K : PySem.W.Frag} {h : Heap} {mg : Str → Option Value} (X : K.In h) (G : h.Ns mainGlobals mg) (cY : SaysY xs fa fn K) : Nonempty (Tx K mg) := by
  have c := cY.old
  obtain ⟨fd0, F0⟩ := c.def_ 0 (d := d_joined_lots) rfl
  obtain ⟨fd1, F1⟩ := c.def_ 1 (d := d_done_by_lots) rfl
  obtain ⟨fd2, F2⟩ := c.def_ 2 (d := d_lots_size) rfl
  obtain ⟨fd3, F3⟩ := c.def_ 3 (d := d_rising_number) rfl
  obtain ⟨fd4, F4⟩ := c.def_ 4 (d := d_all_lots_over) rfl
  obtain ⟨fd5, F5⟩ := c.def_ 5 (d := d__rows) rfl
  obtain ⟨fd6, F6⟩ := c.def_ 6 (d := d_product_table) rfl
  obtain ⟨fd7, F7⟩ := c.def_ 7 (d := d_lots_commute) rfl
  obtain ⟨fd8, F8⟩ := c.def_ 8 (d := d_commuting_pairs) rfl
  obtain ⟨fd9, F9⟩ := c.def_ 9 (d := d_is_idle_lots) rfl
  obtain ⟨fd10, F10⟩ := c.def_ 10 (d := d_divides_left) rfl
  obtain ⟨fd11, F11⟩ := c.def_ 11 (d := d_divides_right) rfl
  obtain ⟨fd12, F12⟩ := c.def_ 12 (d := d_joined_all) rfl
  obtain ⟨fd13, F13⟩ := c.def_ 13 (d := d_change_of) rfl
  obtain ⟨fd14, F14⟩ := c.def_ 14 (d := d_unknown_taken) rfl
  obtain ⟨fd15, F15⟩ := c.def_ 15 (d := d_power_sizes) rfl
  obtain ⟨fd16, F16⟩ := c.def_ 16 (d := d_kept_least) rfl
  obtain ⟨fd17, F17⟩ := c.def_ 17 (d := d_least_kept_number) rfl
  obtain ⟨fd18, F18⟩ := c.def_ 18 (d := d_lots_line) rfl
  obtain ⟨fd19, F19⟩ := c.def_ 19 (d := d__law_trough) rfl
  obtain ⟨fd20, F20⟩ := c.def_ 20 (d := d__law_ladle) rfl
  obtain ⟨fd21, F21⟩ := c.def_ 21 (d := d__law_habit) rfl
  obtain ⟨fd22, F22⟩ := c.def_ 22 (d := d__law_same) rfl
  obtain ⟨fd23, F23⟩ := c.def_ 23 (d := d__law_silent) rfl
  obtain ⟨fd24, F24⟩ := c.def_ 24 (d := d__law_done) rfl
  obtain ⟨fd25, F25⟩ := c.def_ 25 (d := d__law_joined) rfl
  obtain ⟨fd26, F26⟩ := c.def_ 26 (d := d__law_lots) rfl
  obtain ⟨fd27, F27⟩ := c.def_ 27 (d := d__law_recipe) rfl
  obtain ⟨fd28, F28⟩ := c.def_ 28 (d := d__law_things) rfl
  obtain ⟨fd29, F29⟩ := c.def_ 29 (d := d__law_rising) rfl
  obtain ⟨fd30, F30⟩ := c.def_ 30 (d := d__law_count) rfl
  obtain ⟨fd31, F31⟩ := c.def_ 31 (d := d__law_all) rfl
  obtain ⟨fd32, F32⟩ := c.def_ 32 (d := d__law_heard) rfl
  obtain ⟨fd33, F33⟩ := c.def_ 33 (d := d__law_some) rfl
  obtain ⟨fd34, F34⟩ := c.def_ 34 (d := d__law_tables_asked) rfl
  obtain ⟨fd35, F35⟩ := c.def_ 35 (d := d__law_looks_asked) rfl
  obtain ⟨fd36, F36⟩ := c.def_ 36 (d := d__law_over_asked) rfl
  obtain ⟨fd37, F37⟩ := c.def_ 37 (d := d__law_hand) rfl
  obtain ⟨fd38, F38⟩ := c.def_ 38 (d := d_law) rfl
  obtain ⟨fdI0, FI0⟩ := c.def_ 39 (d := dI_BadCall) rfl
  have xc0 := cY.xc 0 rfl
  exact ⟨{ a_joined_lots := _, fd_joined_lots := fd0, F_joined_lots := F0, g_joined_lots := He.glo_ok X G (c.fact 0 (f := .glo "joined_lots") rfl), a_done_by_lots := _, fd_done_by_lots := fd1, F_done_by_lots := F1, g_done_by_lots := He.glo_ok X G (c.fact 1 (f := .glo "done_by_lots") rfl), a_lots_size := _, fd_lots_size := fd2, F_lots_size := F2, g_lots_size := He.glo_ok X G (c.fact 2 (f := .glo "lots_size") rfl), a_rising_number := _, fd_rising_number := fd3, F_rising_number := F3, g_rising_number := He.glo_ok X G (c.fact 3 (f := .glo "rising_number") rfl), a_all_lots_over := _, fd_all_lots_over := fd4, F_all_lots_over := F4, g_all_lots_over := He.glo_ok X G (c.fact 4 (f := .glo "all_lots_over") rfl), a__rows := _, fd__rows := fd5, F__rows := F5, g__rows := He.glo_ok X G (c.fact 5 (f := .glo "_rows") rfl), a_product_table := _, fd_product_table := fd6, F_product_table := F6, g_product_table := He.glo_ok X G (c.fact 6 (f := .glo "product_table") rfl), a_lots_commute := _, fd_lots_commute := fd7, F_lots_commute := F7, g_lots_commute := He.glo_ok X G (c.fact 7 (f := .glo "lots_commute") rfl), a_commuting_pairs := _, fd_commuting_pairs := fd8, F_commuting_pairs := F8, g_commuting_pairs := He.glo_ok X G (c.fact 8 (f := .glo "commuting_pairs") rfl), a_is_idle_lots := _, fd_is_idle_lots := fd9, F_is_idle_lots := F9, g_is_idle_lots := He.glo_ok X G (c.fact 9 (f := .glo "is_idle_lots") rfl), a_divides_left := _, fd_divides_left := fd10, F_divides_left := F10, g_divides_left := He.glo_ok X G (c.fact 10 (f := .glo "divides_left") rfl), a_divides_right := _, fd_divides_right := fd11, F_divides_right := F11, g_divides_right := He.glo_ok X G (c.fact 11 (f := .glo "divides_right") rfl), a_joined_all := _, fd_joined_all := fd12, F_joined_all := F12, g_joined_all := He.glo_ok X G (c.fact 12 (f := .glo "joined_all") rfl), a_change_of := _, fd_change_of := fd13, F_change_of := F13, g_change_of := He.glo_ok X G (c.fact 13 (f := .glo "change_of") rfl), a_unknown_taken := _, fd_unknown_taken := fd14, F_unknown_taken := F14, g_unknown_taken := He.glo_ok X G (c.fact 14 (f := .glo "unknown_taken") rfl), a_power_sizes := _, fd_power_sizes := fd15, F_power_sizes := F15, g_power_sizes := He.glo_ok X G (c.fact 15 (f := .glo "power_sizes") rfl), a_kept_least := _, fd_kept_least := fd16, F_kept_least := F16, g_kept_least := He.glo_ok X G (c.fact 16 (f := .glo "kept_least") rfl), a_least_kept_number := _, fd_least_kept_number := fd17, F_least_kept_number := F17, g_least_kept_number := He.glo_ok X G (c.fact 17 (f := .glo "least_kept_number") rfl), a_lots_line := _, fd_lots_line := fd18, F_lots_line := F18, g_lots_line := He.glo_ok X G (c.fact 18 (f := .glo "lots_line") rfl), a__law_trough := _, fd__law_trough := fd19, F__law_trough := F19, g__law_trough := He.glo_ok X G (c.fact 19 (f := .glo "_law_trough") rfl), a__law_ladle := _, fd__law_ladle := fd20, F__law_ladle := F20, g__law_ladle := He.glo_ok X G (c.fact 20 (f := .glo "_law_ladle") rfl), a__law_habit := _, fd__law_habit := fd21, F__law_habit := F21, g__law_habit := He.glo_ok X G (c.fact 21 (f := .glo "_law_habit") rfl), a__law_same := _, fd__law_same := fd22, F__law_same := F22, g__law_same := He.glo_ok X G (c.fact 22 (f := .glo "_law_same") rfl), a__law_silent := _, fd__law_silent := fd23, F__law_silent := F23, g__law_silent := He.glo_ok X G (c.fact 23 (f := .glo "_law_silent") rfl), a__law_done := _, fd__law_done := fd24, F__law_done := F24, g__law_done := He.glo_ok X G (c.fact 24 (f := .glo "_law_done") rfl), a__law_joined := _, fd__law_joined := fd25, F__law_joined := F25, g__law_joined := He.glo_ok X G (c.fact 25 (f := .glo "_law_joined") rfl), a__law_lots := _, fd__law_lots := fd26, F__law_lots := F26, g__law_lots := He.glo_ok X G (c.fact 26 (f := .glo "_law_lots") rfl), a__law_recipe := _, fd__law_recipe := fd27, F__law_recipe := F27, g__law_recipe := He.glo_ok X G (c.fact 27 (f := .glo "_law_recipe") rfl), a__law_things := _, fd__law_things := fd28, F__law_things := F28, g__law_things := He.glo_ok X G (c.fact 28 (f := .glo "_law_things") rfl), a__law_rising := _, fd__law_rising := fd29, F__law_rising := F29, g__law_rising := He.glo_ok X G (c.fact 29 (f := .glo "_law_rising") rfl), a__law_count := _, fd__law_count := fd30, F__law_count := F30, g__law_count := He.glo_ok X G (c.fact 30 (f := .glo "_law_count") rfl), a__law_all := _, fd__law_all := fd31, F__law_all := F31, g__law_all := He.glo_ok X G (c.fact 31 (f := .glo "_law_all") rfl), a__law_heard := _, fd__law_heard := fd32, F__law_heard := F32, g__law_heard := He.glo_ok X G (c.fact 32 (f := .glo "_law_heard") rfl), a__law_some := _, fd__law_some := fd33, F__law_some := F33, g__law_some := He.glo_ok X G (c.fact 33 (f := .glo "_law_some") rfl), a__law_tables_asked := _, fd__law_tables_asked := fd34, F__law_tables_asked := F34, g__law_tables_asked := He.glo_ok X G (c.fact 34 (f := .glo "_law_tables_asked") rfl), a__law_looks_asked := _, fd__law_looks_asked := fd35, F__law_looks_asked := F35, g__law_looks_asked := He.glo_ok X G (c.fact 35 (f := .glo "_law_looks_asked") rfl), a__law_over_asked := _, fd__law_over_asked := fd36, F__law_over_asked := F36, g__law_over_asked := He.glo_ok X G (c.fact 36 (f := .glo "_law_over_asked") rfl), a__law_hand := _, fd__law_hand := fd37, F__law_hand := F37, g__law_hand := He.glo_ok X G (c.fact 37 (f := .glo "_law_hand") rfl), a_law := _, fd_law := fd38, F_law := F38, g_law := He.glo_ok X G (c.fact 38 (f := .glo "law") rfl), n_abs := He.free_ok X G (c.fact 39 (f := .free "abs") rfl), n_bool := He.free_ok X G (c.fact 40 (f := .free "bool") rfl), n_int := He.free_ok X G (c.fact 41 (f := .free "int") rfl), n_isinstance := He.free_ok X G (c.fact 42 (f := .free "isinstance") rfl), n_len := He.free_ok X G (c.fact 43 (f := .free "len") rfl), n_list := He.free_ok X G (c.fact 44 (f := .free "list") rfl), n_max := He.free_ok X G (c.fact 45 (f := .free "max") rfl), n_min := He.free_ok X G (c.fact 46 (f := .free "min") rfl), n_range := He.free_ok X G (c.fact 47 (f := .free "range") rfl), n_sorted := He.free_ok X G (c.fact 48 (f := .free "sorted") rfl), n_str := He.free_ok X G (c.fact 49 (f := .free "str") rfl), n_sum := He.free_ok X G (c.fact 50 (f := .free "sum") rfl), n_tuple := He.free_ok X G (c.fact 51 (f := .free "tuple") rfl), cs := ⟨He.ga K "BadCall", He.ga K "LikeError"⟩, gc_BadCall := He.glo_ok X G (c.fact 52 (f := .glo "BadCall") rfl), gc_LikeError := He.glo_ok X G (c.fact 53 (f := .glo "LikeError") rfl), fI_BadCall := _, fdI_BadCall := fdI0, FI_BadCall := FI0, xc_BadCall := XcD.fine xc0, fld_BadCall_word := XcD.fld xc0 (f := "word") (by decide), xm_BadCall_BadCall := XcD.em xc0 (p := ("BadCall", true)) (by decide), xm_BadCall_LikeError := XcD.em xc0 (p := ("LikeError", true)) (by decide) }⟩
theorem viewNil (H : Hp) : Dw.view [] [] H = H := by
  funext a
  show (if a ∈ ([] : List Addr) ++ [] then none else H a) = H a
  rw [if_neg (by simp)]
theorem stoNil {K : PySem.W.Frag} {H : Hp} : Sto K [] [] H [] := ⟨rfl, List.nodup_nil, by simp, by simp, by simp⟩
theorem sp_law {K : PySem.W.Frag} (H : Hp) (a : Addr) (ns : List Int) (hl : ns.length ≤ 63) (hS : SqL K H a (ns.map V.int)) : spD K c_law [.ref a] H (fun v _ => v = .bl true) fun _ _ _ => False := by
  refine ⟨[], [], [], [.d (.lst (ns.map .int))], fun r _ => r = .d (.bl true), stoNil, ⟨.ref a, [], rfl, ⟨a, ns.map V.int, rfl, by rw [viewNil]; exact hS, Reps.of_ints ns⟩, rfl⟩, ⟨ns, rfl, rfl, hl, rfl⟩, ?_⟩
  intro r M' e v H' A' _ _ _ _ rv
  subst e
  exact rv
theorem facts {P : Program} {w : World} {K : PySem.W.Frag} {h : Heap} {mg : Str → Option Value} {f : Addr} (X : K.In h) (G : h.Ns mainGlobals mg) (hfa : mg ("law" : Str) = some (.ref f)) (c : SaysY xs fa fn K) :
    ∃ fd : FuncData, (∀ (s : Shared) (v : Value), BindsTo s fd ⟨[v], []⟩ [("script", v)]) ∧ ∀ base : Heap, K.In base → base.Ns mainGlobals mg → FnOk P w K mg base CX0 6 f fd ["script"] (spD K c_law) := by
  obtain ⟨T⟩ := mkT X G c
  have e := hfa.symm.trans T.g_law
  cases e
  have b := FunD.bindsA (ps := ["script"]) T.F_law fun _ _ _ _ _ _ us hl => match us, hl with | [_], _ => rfl
  exact ⟨T.fd_law, fun s v => b s [v] rfl, fun base _ _ => ok_law T⟩
end Lk26
open PySem PySem.W PySem.Calls PyProof.Rows
theorem PySem.Challenge.cw_likethings_k26_lottables_holds : PySem.Challenge.rw_likethings_k26_lottables.Holds := by
  w_on; o_law
  refine HandSHeadRun.head_any (r := OpenLaw.row PySem.Challenge.rw_likethings_k26_lottables) (q := view (OpenLaw.row PySem.Challenge.rw_likethings_k26_lottables).prog [46]) (H := Lk26.hk) (ob := Lk26.ob) (M := 4000) (loose := Lk26.loose) (d := HandSHeadRun.topDef (OpenLaw.row PySem.Challenge.rw_likethings_k26_lottables).prog 46) (kwd := []) Lk26.ob_eq
    (by kernel_rfl) (fun s => by kernel_rfl) Lk26.run (by kernel_rfl) (by kernel_rfl) (by kernel_rfl) (by rfl) (by first | assumption | decide +kernel) (by decide +kernel) ⟨rfl, rfl, rfl, rfl, rfl, by decide +kernel⟩ ?hw ?hc
  case hw => w_witness2
  case hc =>
    refine L2.walk_ofE (l := PySem.Challenge.rw_likethings_k26_lottables) (n := 63) (k := 6) (x := "script") (CX := L2.CX0) rfl (by decide) (by kernel_rfl) ⟨rfl, by decide, by decide⟩ ?F (fun _ _ _ _ z => z)
    intro w mg fa h Y G hmg0
    obtain ⟨K, KX, c⟩ := Y
    have hmg : mg ("law" : PySem.Str) = some (.ref fa) := by
      have e : (HandSHeadRun.topDef (OpenLaw.row PySem.Challenge.rw_likethings_k26_lottables).prog 46).name = ("law" : PySem.Str) := by kernel_rfl
      rw [← e]
      exact hmg0
    obtain ⟨fd, hb, hF⟩ := Lk26.facts (P := (PySem.Challenge.rw_likethings_k26_lottables).prog) (w := w) KX G hmg c
    exact ⟨K, fd, Dw.spD K Lk26.c_law, KX, hb, fun H a ns hl _ hS => Lk26.sp_law H a ns hl hS, hF⟩
