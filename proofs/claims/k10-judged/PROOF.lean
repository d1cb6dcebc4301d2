import PyProof.Rows.All
import Wide.All
import OpenK.AllK
import Wide.FinOn
import HandS.ForMost
import HandS.ForExc
import HandS.RevRange
import HandS.IsInst
import HandS.ExcIs
import HandS.ExcValue
import HandS.Deep
import HandS.Walk
import HandS.Conv
import HandS.SetFor
import KE.DataMinMax
import HandS.Dict
import HandS.Style
import HandS.NoneIn
import HandS.Iter
import HandS.TupSets
import HandS.SortInts
import HandS.Remove
import HandS.HeadHook1
import PySem.Challenge.RW_sumspan_k10_whole_judged
set_option Elab.async false
set_option linter.all false
set_option maxRecDepth 100000
set_option maxHeartbeats 4000000
set_option pp.maxSteps 250
set_option Elab.async false
set_option linter.all false
set_option maxRecDepth 100000
set_option maxHeartbeats 4000000
/-! DLa: values as trees, owned cells, the state without a heap -/
namespace DL
open PySem PySem.Spec PyProof.Rows L2

/-- a value as a tree; scr: the script (read alone); exc: a caught error of the class at c -/
inductive D where
  | non | bl (b : Bool) | int (i : Int) | str (s : Str)
  | lst (xs : List D) | tup (xs : List D)
  | scr (ns : List Int)
  | exc (c : Addr)

def ExH (c a : Addr) : HO := .ext fun h => ∃ (oe : Obj) (vs : Array Value), h.get? a = some oe ∧ Zc (.ref c) none oe ∧ oe.data = .fields vs

mutual
inductive Rep (K : PySem.W.Frag) (B : Hp) : V → D → Prop
  | non : Rep K B .non .non
  | bl (b : Bool) : Rep K B (.bl b) (.bl b)
  | int (i : Int) : Rep K B (.int i) (.int i)
  | str (x : Str) : Rep K B (.str x) (.str x)
  | lst {a : Addr} {vs : List V} {ds : List D} : B a = some (.lst vs) → Reps K B vs ds → Rep K B (.ref a) (.lst ds)
  | tup {a : Addr} {vs : List V} {ds : List D} : SqT K B a vs → Reps K B vs ds → Rep K B (.ref a) (.tup ds)
  | scr {a : Addr} {ns : List Int} : SqL K B a (ns.map V.int) → Rep K B (.ref a) (.scr ns)
  | exc {a c : Addr} : B a = some (ExH c a) → Rep K B (.ref a) (.exc c)
inductive Reps (K : PySem.W.Frag) (B : Hp) : List V → List D → Prop
  | nil : Reps K B [] []
  | cons {v : V} {vs : List V} {d : D} {ds : List D} : Rep K B v d → Reps K B vs ds → Reps K B (v :: vs) (d :: ds)
end

theorem same_rd {H H' : Hp} {a : Addr} {u : HO} (e : Same H H') (h : Rd H a u) : Rd H' a u := by
  rcases h with h | ⟨o, h⟩
  · exact Or.inl (e a _ h)
  · exact Or.inr ⟨o, e a _ h⟩
theorem same_t {K : PySem.W.Frag} {H H' : Hp} {a : Addr} {xs : List V} (e : Same H H') (h : SqT K H a xs) : SqT K H' a xs := by
  rcases h with h | h
  · exact Or.inl (same_rd e h)
  · exact Or.inr h
theorem same_upd' {H : Hp} {p : Addr} {o : HO} (h : H p = none) : Same H (upd H p o) := fun b x e => by
  rw [upd_ne (ne_of_none e h)]
  exact e
section
variable {K : PySem.W.Frag} {B B' : Hp}
mutual
theorem Rep.mono (e : Same B B') : ∀ {d : D} {v : V}, Rep K B v d → Rep K B' v d
  | .non, _, h => by cases h; exact .non
  | .bl b, _, h => by cases h; exact .bl b
  | .int i, _, h => by cases h; exact .int i
  | .str x, _, h => by cases h; exact .str x
  | .lst ds, _, h => by
    cases h with
    | lst ha hs => exact .lst (e _ _ ha) (Reps.mono e hs)
  | .tup ds, _, h => by
    cases h with
    | tup ha hs => exact .tup (same_t e ha) (Reps.mono e hs)
  | .scr ns, _, h => by
    cases h with
    | scr ha => exact .scr (e.seq ha)
  | .exc c, _, h => by
    cases h with
    | exc ha => exact .exc (e _ _ ha)
theorem Reps.mono (e : Same B B') : ∀ {ds : List D} {vs : List V}, Reps K B vs ds → Reps K B' vs ds
  | [], _, h => by cases h; exact .nil
  | d :: ds, _, h => by
    cases h with
    | cons h1 h2 => exact .cons (Rep.mono e h1) (Reps.mono e h2)
end
theorem Reps.length : ∀ {ds : List D} {vs : List V}, Reps K B vs ds → vs.length = ds.length
  | [], _, h => by cases h; rfl
  | d :: ds, _, h => by
    cases h with
    | cons h1 h2 => rw [List.length_cons, List.length_cons, h2.length]
theorem Reps.get : ∀ {ds : List D} {vs : List V} {i : Nat} {d : D}, Reps K B vs ds → ds[i]? = some d → ∃ v, vs[i]? = some v ∧ Rep K B v d
  | [], _, i, d, h, e => by simp at e
  | d :: ds, _, 0, d', h, e => by
    cases h with
    | cons h1 h2 => simp at e; subst e; exact ⟨_, rfl, h1⟩
  | d :: ds, _, i + 1, d', h, e => by
    cases h with
    | cons h1 h2 =>
      obtain ⟨v, a, b⟩ := Reps.get (i := i) h2 (by simpa using e)
      exact ⟨v, by simpa using a, b⟩
theorem Reps.getV : ∀ {ds : List D} {vs : List V} {i : Nat} {v : V}, Reps K B vs ds → vs[i]? = some v → ∃ d, ds[i]? = some d ∧ Rep K B v d
  | [], _, i, d, h, e => by cases h; simp at e
  | d :: ds, _, 0, d', h, e => by
    cases h with
    | cons h1 h2 => simp at e; subst e; exact ⟨_, rfl, h1⟩
  | d :: ds, _, i + 1, d', h, e => by
    cases h with
    | cons h1 h2 =>
      obtain ⟨v, a, b⟩ := Reps.getV (i := i) h2 (by simpa using e)
      exact ⟨v, by simpa using a, b⟩
theorem Reps.append : ∀ {ds es : List D} {vs us : List V}, Reps K B vs ds → Reps K B us es → Reps K B (vs ++ us) (ds ++ es)
  | [], _, _, _, h, k => by cases h; exact k
  | d :: ds, _, _, _, h, k => by
    cases h with
    | cons h1 h2 => exact .cons h1 (Reps.append h2 k)
theorem Reps.set {v : V} {d : D} (r : Rep K B v d) : ∀ {ds : List D} {vs : List V} (i : Nat), Reps K B vs ds → Reps K B (vs.set i v) (ds.set i d)
  | [], _, _, h => by cases h; exact .nil
  | d :: ds, _, 0, h => by
    cases h with
    | cons h1 h2 => exact .cons r h2
  | d :: ds, _, i + 1, h => by
    cases h with
    | cons h1 h2 => exact .cons h1 (Reps.set r i h2)
theorem Reps.take : ∀ {ds : List D} {vs : List V} (i : Nat), Reps K B vs ds → Reps K B (vs.take i) (ds.take i)
  | [], _, i, h => by cases h; simp; exact .nil
  | d :: ds, _, 0, h => by simp; exact .nil
  | d :: ds, _, i + 1, h => by
    cases h with
    | cons h1 h2 => exact .cons h1 (Reps.take i h2)
theorem Reps.drop : ∀ {ds : List D} {vs : List V} (i : Nat), Reps K B vs ds → Reps K B (vs.drop i) (ds.drop i)
  | [], _, i, h => by cases h; simp; exact .nil
  | d :: ds, _, 0, h => h
  | d :: ds, _, i + 1, h => by
    cases h with
    | cons h1 h2 => exact Reps.drop i h2
theorem Reps.reverse {ds : List D} : ∀ {vs : List V}, Reps K B vs ds → Reps K B vs.reverse ds.reverse := by
  induction ds with
  | nil => intro vs h; cases h; exact .nil
  | cons d ds ih =>
    intro vs h
    cases h with
    | cons h1 h2 =>
      rw [List.reverse_cons, List.reverse_cons]
      exact Reps.append (ih h2) (.cons h1 .nil)
theorem Reps.eraseIdx : ∀ {ds : List D} {vs : List V} (i : Nat), Reps K B vs ds → Reps K B (vs.eraseIdx i) (ds.eraseIdx i)
  | [], _, i, h => by cases h; exact .nil
  | d :: ds, _, 0, h => by
    cases h with
    | cons h1 h2 => exact h2
  | d :: ds, _, i + 1, h => by
    cases h with
    | cons h1 h2 => exact .cons h1 (Reps.eraseIdx i h2)
theorem Reps.rep {ds : List D} {vs : List V} (h : Reps K B vs ds) : ∀ k : Nat, Reps K B (List.replicate k vs).flatten (List.replicate k ds).flatten
  | 0 => .nil
  | k + 1 => by
    rw [List.replicate_succ, List.replicate_succ, List.flatten_cons, List.flatten_cons]
    exact Reps.append h (Reps.rep h k)
/-- a list of ints -/
theorem Reps.ints {ns : List Int} : ∀ {vs : List V}, Reps K B vs (ns.map D.int) → vs = ns.map V.int := by
  induction ns with
  | nil => intro vs h; cases h; rfl
  | cons n ns ih =>
    intro vs h
    cases h with
    | cons h1 h2 =>
      cases h1
      rw [ih h2]
      rfl
theorem Reps.bls {ns : List Bool} : ∀ {vs : List V}, Reps K B vs (ns.map D.bl) → vs = ns.map V.bl := by
  induction ns with
  | nil => intro vs h; cases h; rfl
  | cons n ns ih =>
    intro vs h
    cases h with
    | cons h1 h2 =>
      cases h1
      rw [ih h2]
      rfl
theorem Reps.strs {ns : List Str} : ∀ {vs : List V}, Reps K B vs (ns.map D.str) → vs = ns.map V.str := by
  induction ns with
  | nil => intro vs h; cases h; rfl
  | cons n ns ih =>
    intro vs h
    cases h with
    | cons h1 h2 =>
      cases h1
      rw [ih h2]
      rfl
theorem Reps.of_ints : ∀ ns : List Int, Reps K B (ns.map V.int) (ns.map D.int)
  | [] => .nil
  | n :: ns => .cons (.int n) (Reps.of_ints ns)
theorem Reps.of_bls : ∀ ns : List Bool, Reps K B (ns.map V.bl) (ns.map D.bl)
  | [] => .nil
  | n :: ns => .cons (.bl n) (Reps.of_bls ns)
theorem Reps.of_strs : ∀ ns : List Str, Reps K B (ns.map V.str) (ns.map D.str)
  | [] => .nil
  | n :: ns => .cons (.str n) (Reps.of_strs ns)

mutual
/-- no list within: what such a value leans on is none of the cells -/
def D.nol : D → Bool
  | .non => true
  | .bl _ => true
  | .int _ => true
  | .str _ => true
  | .tup xs => D.nols xs
  | .lst _ => false
  | .scr _ => false
  | .exc _ => false
def D.nols : List D → Bool
  | [] => true
  | x :: xs => D.nol x && D.nols xs
end
theorem sqT_out {p : Addr} {us : List V} {a : Addr} {xs : List V} (h : SqT K (upd B p (.lst us)) a xs) : SqT K B a xs := by
  rcases h with (h | ⟨o, h⟩) | h
  · by_cases e : a = p
    · rw [e, upd_same] at h; cases h
    · rw [upd_ne e] at h; exact .inl (.inl h)
  · by_cases e : a = p
    · rw [e, upd_same] at h; cases h
    · rw [upd_ne e] at h; exact .inl (.inr ⟨o, h⟩)
  · exact .inr h
mutual
theorem Rep.out {p : Addr} {us : List V} : ∀ {d : D} {v : V}, D.nol d = true → Rep K (upd B p (.lst us)) v d → Rep K B v d
  | .non, _, _, h => by cases h; exact .non
  | .bl b, _, _, h => by cases h; exact .bl b
  | .int i, _, _, h => by cases h; exact .int i
  | .str x, _, _, h => by cases h; exact .str x
  | .lst ds, _, n, h => by simp [D.nol] at n
  | .tup ds, _, n, h => by
    cases h with
    | tup ha hs => exact .tup (sqT_out ha) (Reps.out (by simpa [D.nol] using n) hs)
  | .scr ns, _, n, h => by simp [D.nol] at n
  | .exc c, _, n, h => by simp [D.nol] at n
theorem Reps.out {p : Addr} {us : List V} : ∀ {ds : List D} {vs : List V}, D.nols ds = true → Reps K (upd B p (.lst us)) vs ds → Reps K B vs ds
  | [], _, _, h => by cases h; exact .nil
  | d :: ds, _, n, h => by
    cases h with
    | cons h1 h2 =>
      have n' : (D.nol d && D.nols ds) = true := by simpa [D.nols] using n
      rw [Bool.and_eq_true] at n'
      exact .cons (Rep.out n'.1 h1) (Reps.out n'.2 h2)
end
end

/-! ### the state -/
/-- a slot: nothing known; a value; a reference to a cell -/
inductive Sl where
  | u | d (x : D) | c (j : Nat)
/-- a cell: a list, a dict with tuples as keys, an instance, nothing known -/
inductive Cl where
  | lst (xs : List D) | dic (kvs : List (List Key × D)) | ins (C : Addr) (fs : List (Str × Sl)) | dead
structure A where
  sl : List Sl
  cl : List Cl

def SlOk (K : PySem.W.Frag) (B : Hp) (as : List Addr) (o : Option V) : Sl → Prop
  | .u => True
  | .d x => ∃ v, o = some v ∧ Rep K B v x
  | .c j => ∃ a, as[j]? = some a ∧ o = some (.ref a)
def ClOk (K : PySem.W.Frag) (B : Hp) (as : List Addr) (H : Hp) (a : Addr) : Cl → Prop
  | .lst ds => ∃ vs, H a = some (.lst vs) ∧ Reps K B vs ds
  | .dic kvs => ∃ kvs', H a = some (.dT kvs') ∧ kvs'.map (·.1) = kvs.map (·.1) ∧ Reps K B (kvs'.map (·.2)) (kvs.map (·.2))
  | .ins C fs => ∃ dx fs', H a = some (.ins C dx fs') ∧ fs'.map (·.1) = fs.map (·.1) ∧ ∀ (i : Nat) (x : Sl), (fs.map (·.2))[i]? = some x → SlOk K B as (fs'.map (·.2))[i]? x
  | .dead => True
def CsOk (K : PySem.W.Frag) (B : Hp) (as : List Addr) (H : Hp) (cl : List Cl) : Prop :=
  as.length = cl.length ∧ ∀ (j : Nat) (a : Addr) (c : Cl), as[j]? = some a → cl[j]? = some c → ClOk K B as H a c
def Cl.live : Cl → Prop
  | .dead => False
  | _ => True

/-- from (B, H) to (B', H'): only the cells change; what is new in B' was a cell or is new in H -/
structure Ext (as : List Addr) (B H : Hp) (as' : List Addr) (B' H' : Hp) : Prop where
  b : Same B B'
  k : ∀ a o, a ∉ as → H a = some o → H' a = some o
  n : ∀ a, B a = none → H a ≠ none → a ∉ as → B' a = none
  l : ∃ ns, as' = as ++ ns ∧ ∀ a ∈ ns, H a = none
  t : ∀ a, H a ≠ none → H' a ≠ none
theorem Ext.refl (as : List Addr) (B H : Hp) : Ext as B H as B H :=
  ⟨fun _ _ e => e, fun _ _ _ e => e, fun _ e _ _ => e, ⟨[], by simp, fun _ h => nomatch h⟩, fun _ e => e⟩
theorem Ext.trans {as as1 as2 : List Addr} {B H B1 H1 B2 H2 : Hp} (x : Ext as B H as1 B1 H1) (y : Ext as1 B1 H1 as2 B2 H2) : Ext as B H as2 B2 H2 := by
  obtain ⟨ns, rfl, hn⟩ := x.l
  have out : ∀ a, H a ≠ none → a ∉ as → a ∉ as ++ ns := fun a h ha hm => by
    rcases List.mem_append.mp hm with hm | hm
    · exact ha hm
    · exact h (hn a hm)
  refine ⟨x.b.trans y.b, fun a o ha e => y.k a o (out a (by rw [e]; exact fun z => nomatch z) ha) (x.k a o ha e), fun a e h ha => y.n a (x.n a e h ha) (x.t a h) (out a h ha), ?_, fun a h => y.t a (x.t a h)⟩
  obtain ⟨ms, rfl, hm⟩ := y.l
  refine ⟨ns ++ ms, by rw [List.append_assoc], fun a ha => ?_⟩
  rcases List.mem_append.mp ha with ha | ha
  · exact hn a ha
  · have q := hm a ha
    cases e : H a with
    | none => rfl
    | some o => exact absurd q (x.t a (by rw [e]; exact fun z => nomatch z))

structure Ok (K : PySem.W.Frag) (as : List Addr) (B H : Hp) (σ : L2.St) (s : A) : Prop where
  sm : Same B H
  nd : as.Nodup
  ht : ∀ a ∈ as, H a ≠ none
  nb : ∀ (j : Nat) (a : Addr) (c : Cl), as[j]? = some a → s.cl[j]? = some c → c.live → B a = none
  cs : CsOk K B as H s.cl
  ln : σ.length = s.sl.length
  sl : ∀ (i : Nat) (x : Sl), s.sl[i]? = some x → SlOk K B as (σ[i]?.join) x

section
variable {K : PySem.W.Frag} {as as' : List Addr} {B B' H H' : Hp} {σ : L2.St} {s s' : A}
theorem SlOk.mono {o : Option V} {x : Sl} (e : Same B B') (l : ∃ ns, as' = as ++ ns) (h : SlOk K B as o x) : SlOk K B' as' o x := by
  cases x with
  | u => exact True.intro
  | d x =>
    obtain ⟨v, a, r⟩ := h
    exact ⟨v, a, r.mono e⟩
  | c j =>
    obtain ⟨a, h1, h2⟩ := h
    obtain ⟨ns, rfl⟩ := l
    exact ⟨a, by rw [List.getElem?_append_left (List.getElem?_eq_some_iff.mp h1).1]; exact h1, h2⟩
theorem ClOk.mono {a : Addr} {c : Cl} (e : Same B B') (l : ∃ ns, as' = as ++ ns) (k : c.live → ∀ o, H a = some o → H' a = some o) (h : ClOk K B as H a c) : ClOk K B' as' H' a c := by
  cases c with
  | lst ds =>
    obtain ⟨vs, h1, h2⟩ := h
    exact ⟨vs, k True.intro _ h1, h2.mono e⟩
  | dic kvs =>
    obtain ⟨kvs', h1, h2, h3⟩ := h
    exact ⟨kvs', k True.intro _ h1, h2, h3.mono e⟩
  | ins C fs =>
    obtain ⟨dx, fs', h1, h2, h3⟩ := h
    exact ⟨dx, fs', k True.intro _ h1, h2, fun i x hx => (h3 i x hx).mono e l⟩
  | dead => exact True.intro
theorem ne_none {α : Type} {o : Option α} {x : α} (h : o = some x) : o ≠ none := by rw [h]; exact fun z => nomatch z
/-- a new thing, known for good -/
theorem Ok.new {p : Addr} {o : HO} (h : Ok K as B H σ s) (hp : H p = none) : Ok K as (upd B p o) (upd H p o) σ s ∧ Ext as B H as (upd B p o) (upd H p o) := by
  have hB : B p = none := h.sm.free hp
  have ne : ∀ a, H a ≠ none → a ≠ p := fun a ha e => ha (by rw [e]; exact hp)
  have sB : Same B (upd B p o) := same_upd' hB
  have sH : Same H (upd H p o) := same_upd' hp
  refine ⟨⟨fun a u e => ?_, h.nd, fun a ha => ?_, fun j a c h1 h2 h3 => ?_, ⟨h.cs.1, fun j a c h1 h2 => (h.cs.2 j a c h1 h2).mono sB ⟨[], by simp⟩ fun _ u e => sH _ _ e⟩, h.ln, fun i x hx => (h.sl i x hx).mono sB ⟨[], by simp⟩⟩,
    ⟨sB, fun a u _ e => sH _ _ e, fun a e1 e2 _ => by rw [upd_ne (ne a e2)]; exact e1, ⟨[], by simp, fun _ z => nomatch z⟩, fun a ha => by rw [upd_ne (ne a ha)]; exact ha⟩⟩
  · by_cases e1 : a = p
    · rw [e1, upd_same] at e ⊢; exact e
    · rw [upd_ne e1] at e ⊢; exact h.sm _ _ e
  · rw [upd_ne (ne a (h.ht a ha))]; exact h.ht a ha
  · rw [upd_ne (ne a (h.ht a (List.mem_of_getElem? h1)))]; exact h.nb j a c h1 h2 h3
/-- a new thing that the state does not speak of -/
theorem Ok.junk {p : Addr} {o : HO} (h : Ok K as B H σ s) (hp : H p = none) : Ok K as B (upd H p o) σ s ∧ Ext as B H as B (upd H p o) := by
  have ne : ∀ a, H a ≠ none → a ≠ p := fun a ha e => ha (by rw [e]; exact hp)
  have sH : Same H (upd H p o) := same_upd' hp
  exact ⟨⟨h.sm.trans sH, h.nd, fun a ha => by rw [upd_ne (ne a (h.ht a ha))]; exact h.ht a ha, h.nb, ⟨h.cs.1, fun j a c h1 h2 => (h.cs.2 j a c h1 h2).mono (fun _ _ e => e) ⟨[], by simp⟩ fun _ u e => sH _ _ e⟩, h.ln, h.sl⟩,
    ⟨fun _ _ e => e, fun a u _ e => sH _ _ e, fun a e1 _ _ => e1, ⟨[], by simp, fun _ z => nomatch z⟩, fun a ha => by rw [upd_ne (ne a ha)]; exact ha⟩⟩
/-- a new cell -/
theorem Ok.cell {p : Addr} {o : HO} {c : Cl} (h : Ok K as B H σ s) (hp : H p = none) (hc : ClOk K B (as ++ [p]) (upd H p o) p c) : Ok K (as ++ [p]) B (upd H p o) σ ⟨s.sl, s.cl ++ [c]⟩ ∧ Ext as B H (as ++ [p]) B (upd H p o) := by
  have hB : B p = none := h.sm.free hp
  have ne : ∀ a, H a ≠ none → a ≠ p := fun a ha e => ha (by rw [e]; exact hp)
  have sH : Same H (upd H p o) := same_upd' hp
  have hl := h.cs.1
  have split : ∀ {j : Nat} {a : Addr} {d : Cl}, (as ++ [p])[j]? = some a → (s.cl ++ [c])[j]? = some d → (as[j]? = some a ∧ s.cl[j]? = some d) ∨ (a = p ∧ d = c) := fun {j a d} h1 h2 => by
    by_cases hj : j < as.length
    · rw [List.getElem?_append_left hj] at h1
      rw [List.getElem?_append_left (by omega)] at h2
      exact .inl ⟨h1, h2⟩
    · rw [List.getElem?_append_right (by omega)] at h1
      rw [List.getElem?_append_right (by omega)] at h2
      rw [hl] at h1
      cases e : j - s.cl.length with
      | zero => rw [e] at h1 h2; simp at h1 h2; exact .inr ⟨h1.symm, h2.symm⟩
      | succ n => rw [e] at h1; simp at h1
  refine ⟨⟨h.sm.trans sH, ?_, fun a ha => ?_, fun j a d h1 h2 h3 => ?_, ⟨by simp [hl], fun j a d h1 h2 => ?_⟩, h.ln, fun i x hx => (h.sl i x hx).mono (fun _ _ e => e) ⟨[p], rfl⟩⟩,
    ⟨fun _ _ e => e, fun a u _ e => sH _ _ e, fun a e1 _ _ => e1, ⟨[p], rfl, fun a ha => by rw [List.mem_singleton.mp ha]; exact hp⟩, fun a ha => by rw [upd_ne (ne a ha)]; exact ha⟩⟩
  · rw [List.nodup_append]
    refine ⟨h.nd, by simp, fun a ha b hb => ?_⟩
    rw [List.mem_singleton.mp hb]
    exact ne a (h.ht a ha)
  · rcases List.mem_append.mp ha with ha | ha
    · rw [upd_ne (ne a (h.ht a ha))]; exact h.ht a ha
    · rw [List.mem_singleton.mp ha, upd_same]; exact fun z => nomatch z
  · rcases split h1 h2 with ⟨h1, h2⟩ | ⟨rfl, rfl⟩
    · exact h.nb j a d h1 h2 h3
    · exact hB
  · rcases split h1 h2 with ⟨h1, h2⟩ | ⟨rfl, rfl⟩
    · exact (h.cs.2 j a d h1 h2).mono (fun _ _ e => e) ⟨[p], rfl⟩ fun _ u e => sH _ _ e
    · exact hc
/-- a cell is written -/
theorem Ok.wr {a : Addr} {j : Nat} {c c' : Cl} {o : HO} (h : Ok K as B H σ s) (h1 : as[j]? = some a) (h2 : s.cl[j]? = some c) (h3 : c.live) (hc : ClOk K B as (upd H a o) a c') : Ok K as B (upd H a o) σ ⟨s.sl, s.cl.set j c'⟩ ∧ Ext as B H as B (upd H a o) := by
  have hB := h.nb j a c h1 h2 h3
  have ha := List.mem_of_getElem? h1
  have hj := (List.getElem?_eq_some_iff.mp h1).1
  have hl := h.cs.1
  have ix : ∀ {i : Nat}, as[i]? = some a → i = j := fun {i} e => nd_ix h.nd e h1
  refine ⟨⟨fun b u e => ?_, h.nd, fun b hb => ?_, fun i b d e1 e2 e3 => ?_, ⟨by simp [hl], fun i b d e1 e2 => ?_⟩, h.ln, h.sl⟩,
    ⟨fun _ _ e => e, fun b u hb e => ?_, fun b e1 _ _ => e1, ⟨[], by simp, fun _ z => nomatch z⟩, fun b hb => ?_⟩⟩
  · rw [upd_ne (ne_of_none e hB)]; exact h.sm _ _ e
  · by_cases e : b = a
    · rw [e, upd_same]; exact fun z => nomatch z
    · rw [upd_ne e]; exact h.ht b hb
  · by_cases e : i = j
    · subst e
      rw [h1] at e1; cases e1
      exact hB
    · dsimp only at e2
      rw [List.getElem?_set_ne (Ne.symm e)] at e2
      exact h.nb i b d e1 e2 e3
  · by_cases e : i = j
    · subst e
      rw [h1] at e1; cases e1
      dsimp only at e2
      rw [List.getElem?_set_self (by omega)] at e2; cases e2
      exact hc
    · dsimp only at e2
      rw [List.getElem?_set_ne (Ne.symm e)] at e2
      refine (h.cs.2 i b d e1 e2).mono (fun _ _ e => e) ⟨[], by simp⟩ fun _ u q => ?_
      rw [upd_ne (fun z => e (ix (by rw [← z]; exact e1)))]
      exact q
  · rw [upd_ne (fun z => hb (by rw [z]; exact ha))]; exact e
  · by_cases e : b = a
    · rw [e, upd_same]; exact fun z => nomatch z
    · rw [upd_ne e]; exact hb
/-- a cell is known for good from now on -/
theorem Ok.freeze {a : Addr} {j : Nat} {c : Cl} {o : HO} (h : Ok K as B H σ s) (h1 : as[j]? = some a) (h2 : s.cl[j]? = some c) (h3 : c.live) (ho : H a = some o) : Ok K as (upd B a o) H σ ⟨s.sl, s.cl.set j .dead⟩ ∧ Ext as B H as (upd B a o) H := by
  have hB := h.nb j a c h1 h2 h3
  have ha := List.mem_of_getElem? h1
  have hj := (List.getElem?_eq_some_iff.mp h1).1
  have hl := h.cs.1
  have sB : Same B (upd B a o) := same_upd' hB
  refine ⟨⟨fun b u e => ?_, h.nd, h.ht, fun i b d e1 e2 e3 => ?_, ⟨by simp [hl], fun i b d e1 e2 => ?_⟩, h.ln, fun i x hx => (h.sl i x hx).mono sB ⟨[], by simp⟩⟩,
    ⟨sB, fun b u hb e => e, fun b e1 _ e3 => by rw [upd_ne (fun z => e3 (by rw [z]; exact ha))]; exact e1, ⟨[], by simp, fun _ z => nomatch z⟩, fun b hb => hb⟩⟩
  · by_cases e1 : b = a
    · rw [e1, upd_same] at e; cases e; rw [e1]; exact ho
    · rw [upd_ne e1] at e; exact h.sm _ _ e
  · by_cases e : i = j
    · subst e
      dsimp only at e2
      rw [List.getElem?_set_self (by omega)] at e2; cases e2
      exact e3.elim
    · dsimp only at e2
      rw [List.getElem?_set_ne (Ne.symm e)] at e2
      rw [upd_ne (fun z => e (nd_ix h.nd e1 (by rw [z]; exact h1)))]
      exact h.nb i b d e1 e2 e3
  · by_cases e : i = j
    · subst e
      dsimp only at e2
      rw [List.getElem?_set_self (by omega)] at e2; cases e2
      exact True.intro
    · dsimp only at e2
      rw [List.getElem?_set_ne (Ne.symm e)] at e2
      exact (h.cs.2 i b d e1 e2).mono sB ⟨[], by simp⟩ fun _ u q => q
theorem join_set {i k : Nat} {o : Option V} (σ : L2.St) (hi : i < σ.length) : ((σ.set i o)[k]?).join = if k = i then o else (σ[k]?).join := by
  by_cases e : k = i
  · subst e
    rw [if_pos rfl, List.getElem?_set_self hi]
    rfl
  · rw [if_neg e, List.getElem?_set_ne (Ne.symm e)]
/-- a slot is stored -/
theorem Ok.store {i : Nat} {o : Option V} {x : Sl} (h : Ok K as B H σ s) (hi : i < s.sl.length) (hx : SlOk K B as o x) : Ok K as B H (σ.set i o) ⟨s.sl.set i x, s.cl⟩ where
  sm := h.sm
  nd := h.nd
  ht := h.ht
  nb := h.nb
  cs := h.cs
  ln := by simp [h.ln]
  sl := fun k y hy => by
    rw [join_set σ (by rw [h.ln]; exact hi)]
    by_cases e : k = i
    · subst e
      dsimp only at hy
      rw [List.getElem?_set_self hi] at hy; cases hy
      rw [if_pos rfl]
      exact hx
    · dsimp only at hy
      rw [List.getElem?_set_ne (Ne.symm e)] at hy
      rw [if_neg e]
      exact h.sl k y hy
/-- a slot told otherwise -/
theorem Ok.tell {i : Nat} {x : Sl} (h : Ok K as B H σ s) (hx : SlOk K B as (σ[i]?.join) x) : Ok K as B H σ ⟨s.sl.set i x, s.cl⟩ where
  sm := h.sm
  nd := h.nd
  ht := h.ht
  nb := h.nb
  cs := h.cs
  ln := by simp [h.ln]
  sl := fun k y hy => by
    by_cases e : k = i
    · subst e
      dsimp only at hy
      rw [List.getElem?_set] at hy
      split at hy
      · split at hy
        · cases hy; exact hx
        · cases hy
      · exact absurd rfl ‹_›
    · dsimp only at hy
      rw [List.getElem?_set_ne (Ne.symm e)] at hy
      exact h.sl k y hy
/-- less is known of the slots -/
inductive Les : List Sl → List Sl → Prop
  | nil : Les [] []
  | u {x : Sl} {l m : List Sl} : Les l m → Les (x :: l) (.u :: m)
  | eq {x : Sl} {l m : List Sl} : Les l m → Les (x :: l) (x :: m)
theorem Les.refl : ∀ l : List Sl, Les l l
  | [] => .nil
  | _ :: l => .eq (Les.refl l)
theorem Les.length : ∀ {l m : List Sl}, Les l m → l.length = m.length
  | _, _, .nil => rfl
  | _, _, .u h => by rw [List.length_cons, List.length_cons, h.length]
  | _, _, .eq h => by rw [List.length_cons, List.length_cons, h.length]
theorem Les.get : ∀ {l m : List Sl} {i : Nat} {x : Sl}, Les l m → m[i]? = some x → x = .u ∨ l[i]? = some x
  | _, _, _, _, .nil, e => by simp at e
  | _, _, 0, _, .u h, e => by simp at e; exact .inl e.symm
  | _, _, 0, _, .eq h, e => .inr e
  | _, _, i + 1, _, .u h, e => by simpa using Les.get (i := i) h (by simpa using e)
  | _, _, i + 1, _, .eq h, e => by simpa using Les.get (i := i) h (by simpa using e)
theorem Ok.less {l : List Sl} (h : Ok K as B H σ s) (e : Les s.sl l) : Ok K as B H σ ⟨l, s.cl⟩ where
  sm := h.sm
  nd := h.nd
  ht := h.ht
  nb := h.nb
  cs := h.cs
  ln := by rw [h.ln]; exact e.length
  sl := fun k y hy => by
    rcases e.get hy with rfl | q
    · exact True.intro
    · exact h.sl k y q
end
end DL
set_option Elab.async false
set_option linter.all false
set_option maxRecDepth 100000
set_option maxHeartbeats 4000000
set_option autoImplicit true
/-! DLb: judgements over the state: expressions -/
namespace DL
open PySem PySem.Spec PyProof.Rows L2

inductive Res where
  | ok (d : D) | er (c : Addr)

/-! ### the widest readings -/
def wE (X : Cx) (e : Expr) : TE := fun σ H Q => ∀ (pins : List (Addr × Obj)) (s : Shared), Inv X pins σ H s → wpAny (model X.prog X.w) X.A (eval e X.env) (EP X pins σ Q) X.xe s
theorem pe_w {X : Cx} {e : Expr} : PE X e (wE X e) := ⟨fun pins s σ H Q I h => h pins s I⟩
theorem wE_of {X : Cx} {e : Expr} {te : TE} {σ : L2.St} {H : Hp} {Q : VK} (h : PE X e te) (q : te σ H Q) : wE X e σ H Q := fun pins s I => h.run pins s σ H Q I q
def wT (X : Cx) (e : Expr) : TT := fun σ H Q => ∀ (pins : List (Addr × Obj)) (s : Shared), Inv X pins σ H s → wpAny (model X.prog X.w) X.A (isTrue e X.env (eval e X.env)) (TP X pins σ Q) X.xe s
theorem pt_w {X : Cx} {e : Expr} : PT X e (wT X e) := ⟨fun pins s σ H Q I h => h pins s I⟩
theorem wT_of {X : Cx} {e : Expr} {te : TT} {σ : L2.St} {H : Hp} {Q : Bool → Hp → Prop} (h : PT X e te) (q : te σ H Q) : wT X e σ H Q := fun pins s I => h.run pins s σ H Q I q
def wW (X : Cx) (e : Expr) : TT := fun σ H Q => ∀ (whole : Sem Value) (pins : List (Addr × Obj)) (s : Shared), Inv X pins σ H s → wpAny (model X.prog X.w) X.A (isTrue e X.env whole) (TP X pins σ Q) X.xe s
theorem pw_w {X : Cx} {e : Expr} : PW X e (wW X e) := ⟨fun wh pins s σ H Q I h => h wh pins s I⟩
theorem wW_of {X : Cx} {e : Expr} {te : TT} {σ : L2.St} {H : Hp} {Q : Bool → Hp → Prop} (h : PW X e te) (q : te σ H Q) : wW X e σ H Q := fun wh pins s I => h.run wh pins s σ H Q I q
def wA (X : Cx) (es : List Expr) : TA := fun σ H Q => ∀ (pos : Pos) (pins : List (Addr × Obj)) (s : Shared), Inv X pins σ H s → wpAny (model X.prog X.w) X.A (spliced (backTo pos (starEach es X.env))) (AP X pins σ Q) X.xe s
theorem pa_w {X : Cx} {es : List Expr} : PA X es (wA X es) := ⟨fun pos pins s σ H Q I h => h pos pins s I⟩
theorem wA_of {X : Cx} {es : List Expr} {te : TA} {σ : L2.St} {H : Hp} {Q : List V → Hp → Prop} (h : PA X es te) (q : te σ H Q) : wA X es σ H Q := fun pos pins s I => h.run pos pins s σ H Q I q
def wO (X : Cx) (e : Option Expr) : TO := fun σ H Q => ∀ (pins : List (Addr × Obj)) (s : Shared), Inv X pins σ H s → wpAny (model X.prog X.w) X.A (evalPart e X.env) (fun u s' => ∃ o H', Inv X pins σ H' s' ∧ IsPart u o ∧ Q o H') X.xe s
theorem po_w {X : Cx} {e : Option Expr} : PO X e (wO X e) := ⟨fun pins s σ H Q I h => h pins s I⟩
theorem wO_of {X : Cx} {e : Option Expr} {te : TO} {σ : L2.St} {H : Hp} {Q : Option Int → Hp → Prop} (h : PO X e te) (q : te σ H Q) : wO X e σ H Q := fun pins s I => h.run pins s σ H Q I q

/-! ### what is told of an expression -/
def OutE (K : PySem.W.Frag) (W : WX) (as : List Addr) (B H : Hp) (σ : L2.St) (s' : A) (Q : VK) : Res → Prop
  | .ok d => ∀ v B' H', Ext as B H as B' H' → Ok K as B' H' σ s' → Rep K B' v d → Q v H'
  | .er c => ∀ B' H', Ext as B H as B' H' → Ok K as B' H' σ s' → W (.ref c) none σ H'
/-- e comes to r, the state behind it is s' -/
def JE (X : Cx) (W : WX) (e : Expr) (s : A) (r : Res) (s' : A) : Prop := ∀ as B H σ, Ok X.K as B H σ s → ∀ Q : VK, OutE X.K W as B H σ s' Q r → wE X e σ H Q
/-- e comes to a new list -/
def JF (X : Cx) (e : Expr) (s : A) (xs : List D) (s' : A) : Prop := ∀ as B H σ, Ok X.K as B H σ s → ∀ Q : VK,
  (∀ p vs B' H', Ext as B H as B' H' → Ok X.K as B' H' σ s' → H p = none → B' p = none → H' p = some (.lst vs) → Reps X.K B' vs xs → Q (.ref p) H') → wE X e σ H Q
/-- a test comes to b -/
def JT (X : Cx) (e : Expr) (s : A) (b : Bool) : Prop := ∀ as B H σ, Ok X.K as B H σ s → ∀ Q : Bool → Hp → Prop, (∀ B' H', Ext as B H as B' H' → Ok X.K as B' H' σ s → Q b H') → wT X e σ H Q
def JW (X : Cx) (e : Expr) (s : A) (b : Bool) : Prop := ∀ as B H σ, Ok X.K as B H σ s → ∀ Q : Bool → Hp → Prop, (∀ B' H', Ext as B H as B' H' → Ok X.K as B' H' σ s → Q b H') → wW X e σ H Q
/-- arguments, all of them values -/
def JD (X : Cx) (es : List Expr) (s : A) (ds : List D) (s' : A) : Prop := ∀ as B H σ, Ok X.K as B H σ s → ∀ Q : List V → Hp → Prop, (∀ vs B' H', Ext as B H as B' H' → Ok X.K as B' H' σ s' → Reps X.K B' vs ds → Q vs H') → wA X es σ H Q
/-- arguments, values or cells -/
inductive ArgsOk (K : PySem.W.Frag) (B : Hp) (as : List Addr) : List V → List Sl → Prop
  | nil : ArgsOk K B as [] []
  | cons {v : V} {vs : List V} {x : Sl} {xs : List Sl} : SlOk K B as (some v) x → ArgsOk K B as vs xs → ArgsOk K B as (v :: vs) (x :: xs)
def JA (X : Cx) (es : List Expr) (s : A) (xs : List Sl) (s' : A) : Prop := ∀ as B H σ, Ok X.K as B H σ s → ∀ Q : List V → Hp → Prop, (∀ vs B' H', Ext as B H as B' H' → Ok X.K as B' H' σ s' → ArgsOk X.K B' as vs xs → Q vs H') → wA X es σ H Q
def JO (X : Cx) (e : Option Expr) (s : A) (o : Option Int) : Prop := ∀ as B H σ, Ok X.K as B H σ s → ∀ Q : Option Int → Hp → Prop, (∀ B' H', Ext as B H as B' H' → Ok X.K as B' H' σ s → Q o H') → wO X e σ H Q

/-- where a body stands -/
structure Cok (X : Cx) (W : WX) (k : Nat) : Prop where
  hr : Room k X.A
  tk : Takes X W
  calm : X.calm = true
  hp : PassesOwn (model X.prog X.w) X.A X.env X.xe
  nd : X.N.Nodup
def WN : WX := fun _ _ _ _ => False

section
variable {X : Cx} {W : WX} {k : Nat} {e a b c : Expr} {es : List Expr} {s s' s1 s2 s3 : A} {d d' da db dc : D} {r : Res} {ds : List D} {xs ys : List D} {pos p2 : Pos} {x : Str}
theorem je_of {te : TE} (h : PE X e te) (k : ∀ as B H σ, Ok X.K as B H σ s → ∀ Q : VK, (∀ v B' H', Ext as B H as B' H' → Ok X.K as B' H' σ s' → Rep X.K B' v d → Q v H') → te σ H Q) : JE X W e s (.ok d) s' :=
  fun as B H σ ok Q q => wE_of h (k as B H σ ok Q q)
theorem jt_of {te : TT} (h : PT X e te) (k : ∀ as B H σ, Ok X.K as B H σ s → ∀ Q : Bool → Hp → Prop, (∀ B' H', Ext as B H as B' H' → Ok X.K as B' H' σ s → Q β H') → te σ H Q) : JT X e s β :=
  fun as B H σ ok Q q => wT_of h (k as B H σ ok Q q)
theorem jw_of {te : TT} (h : PW X e te) (k : ∀ as B H σ, Ok X.K as B H σ s → ∀ Q : Bool → Hp → Prop, (∀ B' H', Ext as B H as B' H' → Ok X.K as B' H' σ s → Q β H') → te σ H Q) : JW X e s β :=
  fun as B H σ ok Q q => wW_of h (k as B H σ ok Q q)
theorem jf_of {te : TE} (h : PE X e te) (k : ∀ as B H σ, Ok X.K as B H σ s → ∀ Q : VK, (∀ p vs B' H', Ext as B H as B' H' → Ok X.K as B' H' σ s' → H p = none → B' p = none → H' p = some (.lst vs) → Reps X.K B' vs xs → Q (.ref p) H') → te σ H Q) : JF X e s xs s' :=
  fun as B H σ ok Q q => wE_of h (k as B H σ ok Q q)
theorem Ext.back {as as' : List Addr} {B H B' H' : Hp} {p : Addr} (x : Ext as B H as' B' H') (h : H' p = none) : H p = none := by
  cases e : H p with
  | none => rfl
  | some o => exact absurd h (x.t p (ne_none e))
theorem free_lt {as : List Addr} {B H : Hp} {σ : L2.St} {K : PySem.W.Frag} (h : Ok K as B H σ s) {p : Addr} (e : H p = none) : p ∉ as := fun z => h.ht p z e
/-- a new list is a value -/
theorem je_f (h : JF X e s xs s') : JE X W e s (.ok (.lst xs)) s' := fun as B H σ ok Q q => h as B H σ ok _ fun p vs B' H' x o hp hB hH hr => by
  have sB : Same B' (upd B' p (.lst vs)) := same_upd' hB
  refine q _ (upd B' p (.lst vs)) H' ⟨x.b.trans sB, x.k, fun y e1 e2 e3 => ?_, x.l, x.t⟩ ⟨fun y u e => ?_, o.nd, o.ht, fun j y c h1 h2 h3 => ?_, ⟨o.cs.1, fun j y c h1 h2 => (o.cs.2 j y c h1 h2).mono sB ⟨[], by simp⟩ fun _ _ z => z⟩, o.ln, fun i y hy => (o.sl i y hy).mono sB ⟨[], by simp⟩⟩ (.lst upd_same (hr.mono sB))
  · rw [upd_ne (fun z => e2 (by rw [z]; exact hp))]; exact x.n y e1 e2 e3
  · by_cases e1 : y = p
    · rw [e1, upd_same] at e; rw [e1, hH]; exact e
    · rw [upd_ne e1] at e; exact o.sm _ _ e
  · rw [upd_ne (fun z => free_lt ok hp (by rw [← z]; exact List.mem_of_getElem? h1))]; exact o.nb j y c h1 h2 h3
theorem je_as (h : JE X W e s (.ok d) s') (e' : d = d') : JE X W e s (.ok d') s' := e' ▸ h
theorem jt_as {β β' : Bool} (h : JT X e s β) (e' : β = β') : JT X e s β' := e' ▸ h
theorem jf_as (h : JF X e s xs s') (e' : xs = ys) : JF X e s ys s' := e' ▸ h

/-! ### names, constants -/
theorem slot_of {as : List Addr} {B H : Hp} {σ : L2.St} {K : PySem.W.Frag} (h : Ok K as B H σ s) {i : Nat} (e : s.sl[i]? = some (.d d)) : ∃ v, σ[i]? = some (some v) ∧ Rep K B v d := by
  obtain ⟨v, e1, r⟩ := h.sl i _ e
  refine ⟨v, ?_, r⟩
  cases q : σ[i]? with
  | none => rw [q] at e1; cases e1
  | some o => rw [q] at e1; exact congrArg some e1
theorem cell_of {as : List Addr} {B H : Hp} {σ : L2.St} {K : PySem.W.Frag} (h : Ok K as B H σ s) {i j : Nat} (e : s.sl[i]? = some (.c j)) : ∃ a, σ[i]? = some (some (.ref a)) ∧ as[j]? = some a := by
  obtain ⟨a, e1, e2⟩ := h.sl i _ e
  refine ⟨a, ?_, e1⟩
  cases q : σ[i]? with
  | none => rw [q] at e2; cases e2
  | some o => rw [q] at e2; exact congrArg some e2
theorem je_var (i : Nat) (hs : s.sl[i]? = some (.d d) := by rfl) (hN : X.N[i]? = some x := by rfl) (hv : Vis X.env.scope x := by first | exact Or.inl rfl | exact Or.inr (Or.inl rfl) | exact Or.inr (Or.inr rfl))
    (hd : (x == ("__debug__" : Str)) = false := by decide) (hcd : (x == ("__classdict__" : Str)) = false := by decide) : JE X W (.Name x pos) s (.ok d) s :=
  je_of (pe_var hN hv hd hcd) fun as B H σ ok Q q => by
    obtain ⟨v, e, r⟩ := slot_of ok hs
    exact ⟨v, e, q v B H (Ext.refl ..) ok r⟩
theorem je_c {v : V} (h : PE X e (tC v)) (r : ∀ B, Rep X.K B v d) : JE X W e s (.ok d) s := je_of h fun as B H σ ok Q q => q v B H (Ext.refl ..) ok (r B)
theorem je_int {i : Int} {j : Nat} : JE X W (.Constant (.int i) j pos) s (.ok (.int i)) s := je_c pe_int fun _ => .int i
theorem je_bl {i : Bool} {j : Nat} : JE X W (.Constant (.bool i) j pos) s (.ok (.bl i)) s := je_c pe_bl fun _ => .bl i
theorem je_non {j : Nat} : JE X W (.Constant .none j pos) s (.ok .non) s := je_c pe_non fun _ => .non
theorem je_str {i : Str} {j : Nat} : JE X W (.Constant (.str i) j pos) s (.ok (.str i)) s := je_c pe_str fun _ => .str i
theorem je_globI {i : Int} {t : Tok} (hm : X.mg x = some (.int i t)) (hg : Gl X x := by rfl) (hd : (x == ("__debug__" : Str)) = false := by decide) : JE X W (.Name x pos) s (.ok (.int i)) s := je_c (v := .int i) (pe_glob hg hm ⟨t, rfl⟩ hd) fun _ => .int i
theorem je_globS {i : Str} {t : Tok} (hm : X.mg x = some (.str i t)) (hg : Gl X x := by rfl) (hd : (x == ("__debug__" : Str)) = false := by decide) : JE X W (.Name x pos) s (.ok (.str i)) s := je_c (v := .str i) (pe_glob hg hm ⟨t, rfl⟩ hd) fun _ => .str i

/-! ### two in a row -/
theorem Ok.two {X : Cx} {W : WX} {a b : Expr} {s s1 s2 : A} {da db : D} (ha : JE X W a s (.ok da) s1) (hb : JE X W b s1 (.ok db) s2) {as : List Addr} {B H : Hp} {σ : L2.St} (ok : Ok X.K as B H σ s) {R : V → V → Hp → Prop}
    (h : ∀ x y B2 H2, Ext as B H as B2 H2 → Ok X.K as B2 H2 σ s2 → Rep X.K B2 x da → Rep X.K B2 y db → R x y H2) : wE X a σ H fun x H1 => wE X b σ H1 fun y H2 => R x y H2 :=
  ha as B H σ ok _ fun x B1 H1 e1 o1 r1 => hb as B1 H1 σ o1 _ fun y B2 H2 e2 o2 r2 => h x y B2 H2 (e1.trans e2) o2 (r1.mono e2.b) r2
theorem Ok.one {X : Cx} {W : WX} {a : Expr} {s s1 : A} {da : D} (ha : JE X W a s (.ok da) s1) {as : List Addr} {B H : Hp} {σ : L2.St} (ok : Ok X.K as B H σ s) {R : V → Hp → Prop}
    (h : ∀ x B1 H1, Ext as B H as B1 H1 → Ok X.K as B1 H1 σ s1 → Rep X.K B1 x da → R x H1) : wE X a σ H fun x H1 => R x H1 :=
  ha as B H σ ok _ fun x B1 H1 e1 o1 r1 => h x B1 H1 e1 o1 r1

/-! ### operators -/
inductive BinD : Operator → D → D → D → Prop
  | addI {i j : Int} : BinD .Add (.int i) (.int j) (.int (i + j))
  | subI {i j : Int} : BinD .Sub (.int i) (.int j) (.int (i - j))
  | mulI {i j : Int} (h : CMul i j) : BinD .Mult (.int i) (.int j) (.int (i * j))
  | divI {i j : Int} (h : CDiv i j) : BinD .FloorDiv (.int i) (.int j) (.int (i / j))
  | modI {i j : Int} (h : 0 < j) : BinD .Mod (.int i) (.int j) (.int (i % j))
  | addS {x y : Str} (h : x.length + y.length ≤ sizeLine) : BinD .Add (.str x) (.str y) (.str (x ++ y))
  | catT {xs ys : List D} (h : xs ≠ []) (hl : xs.length + ys.length ≤ sizeLine) : BinD .Add (.tup xs) (.tup ys) (.tup (xs ++ ys))
theorem je_bin {op : Operator} (ha : JE X W a s (.ok da) s1) (hb : JE X W b s1 (.ok db) s2) (h : BinD op da db d) : JE X W (.BinOp a op b pos) s (.ok d) s2 := by
  cases h with
  | addI =>
    refine je_of (pe_op op_add pe_w pe_w) fun as B H σ ok Q q => Ok.two ha hb ok fun x y B2 H2 e2 o2 rx ry => ?_
    cases rx; cases ry
    exact ⟨_, _, rfl, rfl, q _ B2 H2 e2 o2 (.int _)⟩
  | subI =>
    refine je_of (pe_op op_sub pe_w pe_w) fun as B H σ ok Q q => Ok.two ha hb ok fun x y B2 H2 e2 o2 rx ry => ?_
    cases rx; cases ry
    exact ⟨_, _, rfl, rfl, q _ B2 H2 e2 o2 (.int _)⟩
  | mulI hc =>
    refine je_of (pe_op op_mul pe_w pe_w) fun as B H σ ok Q q => Ok.two ha hb ok fun x y B2 H2 e2 o2 rx ry => ?_
    cases rx; cases ry
    exact ⟨_, _, rfl, rfl, hc, q _ B2 H2 e2 o2 (.int _)⟩
  | divI hc =>
    refine je_of (pe_op op_fdiv pe_w pe_w) fun as B H σ ok Q q => Ok.two ha hb ok fun x y B2 H2 e2 o2 rx ry => ?_
    cases rx; cases ry
    exact ⟨_, _, rfl, rfl, hc, q _ B2 H2 e2 o2 (.int _)⟩
  | modI hc =>
    refine je_of (pe_op op_mod pe_w pe_w) fun as B H σ ok Q q => Ok.two ha hb ok fun x y B2 H2 e2 o2 rx ry => ?_
    cases rx; cases ry
    exact ⟨_, _, rfl, rfl, hc, q _ B2 H2 e2 o2 (.int _)⟩
  | addS hc =>
    refine je_of (pe_op op_add_str pe_w pe_w) fun as B H σ ok Q q => Ok.two ha hb ok fun x y B2 H2 e2 o2 rx ry => ?_
    cases rx; cases ry
    exact ⟨_, _, rfl, rfl, hc, q _ B2 H2 e2 o2 (.str _)⟩
  | @catT xs ys hne hl =>
    refine je_of (pe_op op_catT pe_w pe_w) fun as B H σ ok Q q => Ok.two ha hb ok fun x y B2 H2 e2 o2 rx ry => ?_
    cases rx with
    | @tup pa va _ sa ra =>
      cases ry with
      | @tup pb vb _ sb rb =>
        have l1 := ra.length
        have l2 := rb.length
        refine ⟨_, _, va, vb, rfl, rfl, same_t o2.sm sa, same_t o2.sm sb, fun z => ?_, by omega, ?_, fun _ p hp => ?_⟩
        · rw [z] at l1
          exact hne (List.eq_nil_of_length_eq_zero l1.symm)
        · intro z
          rw [z] at l2
          have e : ys = [] := List.eq_nil_of_length_eq_zero l2.symm
          subst e
          rw [List.append_nil] at q
          exact q _ B2 H2 e2 o2 (.tup sa ra)
        · obtain ⟨o3, e3⟩ := o2.new (o := .tup (va ++ vb)) hp
          exact q _ _ _ (e2.trans e3) o3 (.tup (.inl (.inl upd_same)) ((ra.mono e3.b).append (rb.mono e3.b)))
theorem je_neg {i : Int} (ha : JE X W a s (.ok (.int i)) s1) : JE X W (.UnaryOp .USub a pos) s (.ok (.int (-i))) s1 :=
  je_of (pe_un un_neg pe_w) fun as B H σ ok Q q => Ok.one ha ok fun x B1 H1 e1 o1 r => by
    cases r
    exact ⟨i, rfl, q _ B1 H1 e1 o1 (.int _)⟩
/-- lists put together; a list so many times -/
theorem Ok.newF {K : PySem.W.Frag} {as : List Addr} {B H B2 H2 : Hp} {σ : L2.St} {s2 : A} {p : Addr} {vs : List V} {xs : List D} {Q : VK} (e2 : Ext as B H as B2 H2) (o2 : Ok K as B2 H2 σ s2) (hp : H2 p = none) (r : Reps K B2 vs xs)
    (q : ∀ p vs B' H', Ext as B H as B' H' → Ok K as B' H' σ s2 → H p = none → B' p = none → H' p = some (.lst vs) → Reps K B' vs xs → Q (.ref p) H') : Q (.ref p) (upd H2 p (.lst vs)) := by
  obtain ⟨o3, e3⟩ := o2.junk (o := .lst vs) hp
  exact q p vs B2 _ (e2.trans e3) o3 (e2.back hp) (o2.sm.free hp) upd_same r
theorem jf_cat (ha : JE X WN a s (.ok (.lst xs)) s1) (hb : JE X WN b s1 (.ok (.lst ys)) s2) (hl : xs.length + ys.length ≤ sizeLine) : JF X (.BinOp a .Add b pos) s (xs ++ ys) s2 :=
  jf_of (pe_op op_cat pe_w pe_w) fun as B H σ ok Q q => Ok.two ha hb ok fun x y B2 H2 e2 o2 rx ry => by
    cases rx with
    | @lst pa va _ sa ra =>
      cases ry with
      | @lst pb vb _ sb rb =>
        have l1 := ra.length
        have l2 := rb.length
        exact ⟨_, _, va, vb, rfl, rfl, o2.sm _ _ sa, o2.sm _ _ sb, by omega, fun p hp => Ok.newF e2 o2 hp (ra.append rb) q⟩
theorem jf_rep {n : Int} (ha : JE X WN a s (.ok (.lst xs)) s1) (hb : JE X WN b s1 (.ok (.int n)) s2) (h1 : -(2 ^ 63) ≤ n ∧ n < 2 ^ 63) (hl : xs.length * n.toNat ≤ sizeLine) : JF X (.BinOp a .Mult b pos) s (List.replicate n.toNat xs).flatten s2 :=
  jf_of (pe_op op_rep pe_w pe_w) fun as B H σ ok Q q => Ok.two ha hb ok fun x y B2 H2 e2 o2 rx ry => by
    cases ry
    cases rx with
    | @lst pa va _ sa ra =>
      have l1 := ra.length
      exact ⟨_, _, va, rfl, rfl, o2.sm _ _ sa, h1.1, h1.2, by rw [l1]; exact hl, fun p hp => Ok.newF e2 o2 hp (ra.rep _) q⟩

/-! ### displays -/
theorem jd_nil : JD X [] s [] s := fun as B H σ ok Q q => wA_of pa_nil (q [] B H (Ext.refl ..) ok .nil)
theorem jd_cons (ha : JE X WN e s (.ok d) s1) (hr : JD X es s1 ds s2) (hs : starEach (e :: es) X.env = (false, eval e X.env) :: starEach es X.env := by rfl) : JD X (e :: es) s (d :: ds) s2 :=
  fun as B H σ ok Q q => wA_of (pa_cons pe_w pa_w hs) (Ok.one ha ok fun x B1 H1 e1 o1 r => hr as B1 H1 σ o1 _ fun vs B2 H2 e2 o2 rr => q _ B2 H2 (e1.trans e2) o2 (.cons (r.mono e2.b) rr))
theorem je_tup {j : Nat} (h : JD X es s ds s1) (hl : ds.length ≤ sizeLine := by exact Nat.le_of_ble_eq_true rfl) : JE X W (.Tuple es j pos) s (.ok (.tup ds)) s1 :=
  je_of (pe_tup pa_w) fun as B H σ ok Q q => h as B H σ ok _ fun vs B1 H1 e1 o1 r => by
    have l := r.length
    refine ⟨by omega, fun p hp => ?_⟩
    obtain ⟨o3, e3⟩ := o1.new (o := .tup vs) hp
    exact q _ _ _ (e1.trans e3) o3 (.tup (.inl (.inl upd_same)) (r.mono e3.b))
theorem jf_lst (h : JD X es s ds s1) (hl : ds.length ≤ sizeLine := by exact Nat.le_of_ble_eq_true rfl) : JF X (.List es pos) s ds s1 :=
  jf_of (pe_lst pa_w) fun as B H σ ok Q q => h as B H σ ok _ fun vs B1 H1 e1 o1 r => by
    have l := r.length
    exact ⟨by omega, fun p hp => Ok.newF e1 o1 hp r q⟩

/-! ### items -/
theorem Reps.atI {K : PySem.W.Frag} {B : Hp} {ds : List D} {vs : List V} {i : Int} {d : D} (h : Reps K B vs ds) (e : L2.atI ds i = some d) : ∃ v, L2.atI vs i = some v ∧ Rep K B v d := by
  unfold L2.atI at e ⊢
  rw [h.length]
  cases q : ixN ds.length i with
  | none => rw [q] at e; cases e
  | some j =>
    rw [q] at e
    exact h.get e
inductive IxD : D → D → D → Prop
  | lst {xs : List D} {i : Int} {d : D} (h : L2.atI xs i = some d) : IxD (.lst xs) (.int i) d
  | tup {xs : List D} {i : Int} {d : D} (h : L2.atI xs i = some d) : IxD (.tup xs) (.int i) d
  | scr {ns : List Int} {i n : Int} (h : L2.atI ns i = some n) : IxD (.scr ns) (.int i) (.int n)
  | str {z : Str} {i : Int} {c : Nat} (hl : z.length ≤ sizeLine) (h : L2.atI z.cps.toList i = some c) : IxD (.str z) (.int i) (.str ⟨#[c]⟩)
theorem je_ix (ha : JE X W a s (.ok da) s1) (hb : JE X W b s1 (.ok db) s2) (h : IxD da db d) (hs : PlainIx b := by (intro _ _; rfl)) : JE X W (.Subscript a b pos) s (.ok d) s2 := by
  refine je_of (pe_ix ix_seq pe_w pe_w hs) fun as B H σ ok Q q => Ok.two ha hb ok fun x y B2 H2 e2 o2 rx ry => ?_
  cases h with
  | @lst xs i d h =>
    cases ry
    cases rx with
    | lst sa ra =>
      obtain ⟨v, h1, r⟩ := ra.atI h
      exact .inl ⟨_, _, i, v, rfl, rfl, .inl (.inl (o2.sm _ _ sa)), h1, q v B2 H2 e2 o2 r⟩
  | @tup xs i d h =>
    cases ry
    cases rx with
    | tup sa ra =>
      obtain ⟨v, h1, r⟩ := ra.atI h
      exact .inr (.inl ⟨_, _, i, v, rfl, rfl, same_t o2.sm sa, h1, q v B2 H2 e2 o2 r⟩)
  | @scr ns i n h =>
    cases ry
    cases rx with
    | scr sa =>
      refine .inl ⟨_, _, i, .int n, rfl, rfl, o2.sm.seq sa, ?_, q _ B2 H2 e2 o2 (.int n)⟩
      unfold L2.atI at h ⊢
      rw [List.length_map]
      cases e : ixN ns.length i with
      | none => rw [e] at h; cases h
      | some j =>
        rw [e] at h
        show (ns.map V.int)[j]? = _
        rw [List.getElem?_map]
        have h' : ns[j]? = some n := h
        rw [h']
        rfl
  | @str z i c hl h =>
    cases ry
    cases rx
    exact .inr (.inr ⟨z, i, c, rfl, rfl, hl, h, q _ B2 H2 e2 o2 (.str _)⟩)
theorem jo_none : JO X none s none := fun as B H σ ok Q q => wO_of po_none (q B H (Ext.refl ..) ok)
theorem jo_some {i : Int} (h : JE X WN e s (.ok (.int i)) s) : JO X (some e) s (some i) := fun as B H σ ok Q q => wO_of (po_some pe_w) (Ok.one h ok fun x B1 H1 e1 o1 r => by
  cases r
  exact ⟨i, rfl, q B1 H1 e1 o1⟩)
def cutG {α : Type} (xs : List α) (lo hi : Option Int) : List α := (xs.drop (HT.sIx xs.length 0 lo)).take (HT.sIx xs.length xs.length hi - HT.sIx xs.length 0 lo)
theorem Reps.cut {K : PySem.W.Frag} {B : Hp} {ds : List D} {vs : List V} (h : Reps K B vs ds) (lo hi : Option Int) : Reps K B (cutV vs lo hi) (cutG ds lo hi) := by
  unfold cutV cutG
  rw [h.length]
  exact (h.drop _).take _
theorem jf_cut {lo hi : Option Expr} {l u : Option Int} (ha : JE X WN a s (.ok (.lst xs)) s) (hl : JO X lo s l) (hu : JO X hi s u) : JF X (.Subscript a (.Slice lo hi none p2) pos) s (cutG xs l u) s :=
  jf_of (pe_slice sl_list pe_w po_w po_w) fun as B H σ ok Q q => Ok.one ha ok fun x B1 H1 e1 o1 r => hl as B1 H1 σ o1 _ fun B2 H2 e2 o2 => hu as B2 H2 σ o2 _ fun B3 H3 e3 o3 => by
    cases r with
    | lst sa ra => exact ⟨_, _, rfl, .inl (.inl (o3.sm _ _ (e3.b _ _ (e2.b _ _ sa)))), fun p hp => Ok.newF ((e1.trans e2).trans e3) o3 hp ((ra.mono (e2.b.trans e3.b)).cut l u) q⟩

/-! ### reading the cells as values -/
def vwS (cl : List Cl) : Sl → Sl
  | .u => .u
  | .d x => .d x
  | .c j => match cl[j]? with
    | some (.lst xs) => .d (.lst xs)
    | _ => .u
def A.pv (s : A) : A := ⟨s.sl.map (vwS s.cl), []⟩
def vwB (as : List Addr) (B H : Hp) : Hp := fun y => match B y with
  | some u => some u
  | none => if y ∈ as then (match H y with
    | some (.lst vs) => some (.lst vs)
    | _ => none) else none
def cutB (as : List Addr) (B B' : Hp) : Hp := fun y => match B y with
  | some _ => B' y
  | none => if y ∈ as then none else B' y
section
variable {K : PySem.W.Frag} {as : List Addr} {B B' H H' : Hp} {σ : L2.St}
theorem vwB_some {y : Addr} {u : HO} (h : B y = some u) : vwB as B H y = some u := by unfold vwB; rw [h]
theorem vwB_same (h : Same B H) : Same (vwB as B H) H := fun y u e => by
  unfold vwB at e
  cases q : B y with
  | some w => rw [q] at e; cases e; exact h _ _ q
  | none =>
    rw [q] at e
    dsimp only at e
    split at e
    · split at e
      · cases e; assumption
      · cases e
    · cases e
theorem Ok.view (ok : Ok K as B H σ s) : Ok K [] (vwB as B H) H σ s.pv where
  sm := vwB_same ok.sm
  nd := List.nodup_nil
  ht := fun _ h => nomatch h
  nb := fun j a c h => by simp at h
  cs := ⟨rfl, fun j a c h => by simp at h⟩
  ln := by
    rw [ok.ln]
    exact (List.length_map (as := s.sl) (vwS s.cl)).symm
  sl := fun i x hx => by
    have hx' : (s.sl.map (vwS s.cl))[i]? = some x := hx
    rw [List.getElem?_map] at hx'
    cases q : s.sl[i]? with
    | none => rw [q] at hx'; cases hx'
    | some y =>
      rw [q] at hx'
      have e : vwS s.cl y = x := Option.some.inj hx'
      have sB : Same B (vwB as B H) := fun y u e => vwB_some e
      cases y with
      | u => rw [← e]; exact True.intro
      | d z =>
        rw [← e]
        obtain ⟨v, h1, h2⟩ := ok.sl i _ q
        exact ⟨v, h1, h2.mono sB⟩
      | c j =>
        cases r : s.cl[j]? with
        | none => rw [← e]; simp only [vwS, r]; exact True.intro
        | some c =>
          cases c with
          | lst xs =>
            rw [← e]
            simp only [vwS, r]
            obtain ⟨a, h1, h2⟩ := ok.sl i _ q
            obtain ⟨vs, hH, hv⟩ := ok.cs.2 j a _ h1 r
            have hB := ok.nb j a _ h1 r True.intro
            refine ⟨.ref a, h2, .lst (vs := vs) ?_ (hv.mono sB)⟩
            unfold vwB
            rw [hB]
            dsimp only
            rw [if_pos (List.mem_of_getElem? h1), hH]
          | dic kvs => rw [← e]; simp only [vwS, r]; exact True.intro
          | ins C fs => rw [← e]; simp only [vwS, r]; exact True.intro
          | dead => rw [← e]; simp only [vwS, r]; exact True.intro
theorem cutB_t {a : Addr} {xs : List V} (ok : Ok K as B H σ s) (x : Ext [] (vwB as B H) H [] B' H') (h : SqT K B' a xs) : SqT K (cutB as B B') a xs := by
  have go : ∀ u, B' a = some u → (∀ vs, u ≠ .lst vs) → cutB as B B' a = some u := fun u e n => by
    unfold cutB
    cases q : B a with
    | some w => exact e
    | none =>
      dsimp only
      by_cases hm : a ∈ as
      · exfalso
        cases r : H a with
        | none => exact ok.ht a hm r
        | some o =>
          by_cases z : ∃ vs, o = .lst vs
          · obtain ⟨vs, rfl⟩ := z
            have z1 : vwB as B H a = some (.lst vs) := by
              unfold vwB
              rw [q]
              dsimp only
              rw [if_pos hm, r]
            have z2 := x.b _ _ z1
            rw [e] at z2
            exact n vs (Option.some.inj z2)
          · have z1 : vwB as B H a = none := by
              unfold vwB
              rw [q]
              dsimp only
              rw [if_pos hm, r]
              cases o <;> first | rfl | exact absurd ⟨_, rfl⟩ z
            have z2 := x.n a z1 (ne_none r) (fun z => nomatch z)
            rw [e] at z2
            cases z2
      · rw [if_neg hm]; exact e
  rcases h with (h | ⟨o, h⟩) | h
  · exact .inl (.inl (go _ h fun vs z => nomatch z))
  · exact .inl (.inr ⟨o, go _ h fun vs z => nomatch z⟩)
  · exact .inr h
mutual
theorem Rep.cutB (ok : Ok K as B H σ s) (x : Ext [] (vwB as B H) H [] B' H') : ∀ {d : D} {v : V}, D.nol d = true → Rep K B' v d → Rep K (cutB as B B') v d
  | .non, _, _, h => by cases h; exact .non
  | .bl b, _, _, h => by cases h; exact .bl b
  | .int i, _, _, h => by cases h; exact .int i
  | .str x, _, _, h => by cases h; exact .str x
  | .lst ds, _, n, h => by simp [D.nol] at n
  | .tup ds, _, n, h => by
    cases h with
    | tup ha hs => exact .tup (cutB_t ok x ha) (Reps.cutB ok x (by simpa [D.nol] using n) hs)
  | .scr ns, _, n, h => by simp [D.nol] at n
  | .exc c, _, n, h => by simp [D.nol] at n
theorem Reps.cutB (ok : Ok K as B H σ s) (x : Ext [] (vwB as B H) H [] B' H') : ∀ {ds : List D} {vs : List V}, D.nols ds = true → Reps K B' vs ds → Reps K (cutB as B B') vs ds
  | [], _, _, h => by cases h; exact .nil
  | d :: ds, _, n, h => by
    cases h with
    | cons h1 h2 =>
      have n' : (D.nol d && D.nols ds) = true := by simpa [D.nols] using n
      rw [Bool.and_eq_true] at n'
      exact .cons (Rep.cutB ok x n'.1 h1) (Reps.cutB ok x n'.2 h2)
end
theorem Ok.unview (ok : Ok K as B H σ s) (x : Ext [] (vwB as B H) H [] B' H') (sm : Same B' H') : Ext as B H as (cutB as B B') H' ∧ Ok K as (cutB as B B') H' σ s := by
  have sB : Same B (cutB as B B') := fun y u e => by
    unfold cutB
    rw [e]
    exact x.b _ _ (vwB_some e)
  have sH : Same H H' := fun y u e => x.k y u (fun z => nomatch z) e
  refine ⟨⟨sB, fun y u _ e => sH _ _ e, fun y h1 h2 h3 => ?_, ⟨[], by simp, fun _ z => nomatch z⟩, x.t⟩, ⟨fun y u e => ?_, ok.nd, fun a ha => x.t a (ok.ht a ha), fun j a c h1 h2 h3 => ?_, ⟨ok.cs.1, fun j a c h1 h2 => (ok.cs.2 j a c h1 h2).mono sB ⟨[], by simp⟩ fun _ u e => sH _ _ e⟩, ok.ln, fun i y hy => (ok.sl i y hy).mono sB ⟨[], by simp⟩⟩⟩
  · unfold DL.cutB
    rw [h1]
    dsimp only
    rw [if_neg h3]
    refine x.n y ?_ h2 (fun z => nomatch z)
    unfold vwB
    rw [h1]
    dsimp only
    rw [if_neg h3]
  · unfold DL.cutB at e
    cases q : B y with
    | some w => rw [q] at e; exact sm _ _ e
    | none =>
      rw [q] at e
      dsimp only at e
      split at e
      · cases e
      · exact sm _ _ e
  · unfold DL.cutB
    rw [ok.nb j a c h1 h2 h3]
    dsimp only
    rw [if_pos (List.mem_of_getElem? h1)]
end
theorem je_view (h : JE X W e s.pv (.ok d) s.pv) (hn : D.nol d = true := by rfl) : JE X W e s (.ok d) s := fun as B H σ ok Q q =>
  h [] _ H σ ok.view Q fun v B' H' x o r => by
    obtain ⟨x2, o2⟩ := ok.unview x o.sm
    exact q v _ H' x2 o2 (Rep.cutB ok x hn r)
theorem jt_view {β : Bool} (h : JT X e s.pv β) : JT X e s β := fun as B H σ ok Q q =>
  h [] _ H σ ok.view Q fun B' H' x o => by
    obtain ⟨x2, o2⟩ := ok.unview x o.sm
    exact q _ H' x2 o2
end
end DL
set_option Elab.async false
set_option linter.all false
set_option maxRecDepth 100000
set_option maxHeartbeats 4000000
set_option autoImplicit true
/-! DLc: comparisons, tests, built-in calls, methods -/
namespace DL
open PySem PySem.Spec PyProof.Rows L2

/-! ### the library's data -/
mutual
def D.py : D → PyData
  | .non => .none
  | .bl b => .bool b
  | .int i => .int i
  | .str s => .str s
  | .lst xs => .list (D.pys xs)
  | .tup xs => .tuple (D.pys xs)
  | .scr ns => .list (ns.map .int)
  | .exc _ => .none
def D.pys : List D → List PyData
  | [] => []
  | x :: xs => D.py x :: D.pys xs
end
theorem pys_map : ∀ xs : List D, D.pys xs = xs.map D.py
  | [] => rfl
  | x :: xs => by rw [D.pys, List.map_cons, pys_map xs]
/-- data no deeper than n, its texts proper -/
def Sh : Nat → D → Prop
  | _, .str s => PyData.strOk s = true
  | n + 1, .lst xs => ∀ x ∈ xs, Sh n x
  | n + 1, .tup xs => ∀ x ∈ xs, Sh n x
  | 0, .lst _ => False
  | 0, .tup _ => False
  | _, .scr _ => False
  | _, .exc _ => False
  | _, .non => True
  | _, .bl _ => True
  | _, .int _ => True
theorem sh_py : ∀ (n : Nat) (d : D), Sh n d → d.py.canLay0 = true ∧ d.py.depth ≤ n
  | n, .str s, h => by
    cases n <;> exact ⟨by simpa [Sh, D.py, PyData.canLay0] using h, by simp [D.py, PyData.depth]⟩
  | 0, .lst _, h => by simp [Sh] at h
  | 0, .tup _, h => by simp [Sh] at h
  | n + 1, .lst xs, h => by
    have h' : ∀ x ∈ xs, Sh n x := by simpa [Sh] using h
    have z : ∀ l : List D, (∀ x ∈ l, Sh n x) → PyData.canLayAll0 (D.pys l) = true ∧ PyData.depthAll (D.pys l) ≤ n := by
      intro l
      induction l with
      | nil => intro _; exact ⟨rfl, Nat.zero_le _⟩
      | cons x l ih =>
        intro hl
        have h1 := sh_py n x (hl x List.mem_cons_self)
        have h2 := ih fun y hy => hl y (List.mem_cons_of_mem _ hy)
        exact ⟨by rw [D.pys, PyData.canLayAll0, h1.1, h2.1]; rfl, by rw [D.pys, PyData.depthAll]; exact Nat.max_le.mpr ⟨h1.2, h2.2⟩⟩
    obtain ⟨z1, z2⟩ := z xs h'
    exact ⟨by rw [D.py, PyData.canLay0]; exact z1, by rw [D.py, PyData.depth]; omega⟩
  | n + 1, .tup xs, h => by
    have h' : ∀ x ∈ xs, Sh n x := by simpa [Sh] using h
    have z : ∀ l : List D, (∀ x ∈ l, Sh n x) → PyData.canLayAll0 (D.pys l) = true ∧ PyData.depthAll (D.pys l) ≤ n := by
      intro l
      induction l with
      | nil => intro _; exact ⟨rfl, Nat.zero_le _⟩
      | cons x l ih =>
        intro hl
        have h1 := sh_py n x (hl x List.mem_cons_self)
        have h2 := ih fun y hy => hl y (List.mem_cons_of_mem _ hy)
        exact ⟨by rw [D.pys, PyData.canLayAll0, h1.1, h2.1]; rfl, by rw [D.pys, PyData.depthAll]; exact Nat.max_le.mpr ⟨h1.2, h2.2⟩⟩
    obtain ⟨z1, z2⟩ := z xs h'
    exact ⟨by rw [D.py, PyData.canLay0]; exact z1, by rw [D.py, PyData.depth]; omega⟩
  | n, .scr _, h => by cases n <;> simp [Sh] at h
  | n, .exc _, h => by cases n <;> simp [Sh] at h
  | n, .non, _ => by cases n <;> exact ⟨rfl, by simp [D.py, PyData.depth]⟩
  | n, .bl _, _ => by cases n <;> exact ⟨rfl, by simp [D.py, PyData.depth]⟩
  | n, .int _, _ => by cases n <;> exact ⟨rfl, by simp [D.py, PyData.depth]⟩
theorem shaped_of {n : Nat} {d : D} (h : Sh n d) (hn : n ≤ 60) : SeqAt.shaped d.py = true := by
  obtain ⟨h1, h2⟩ := sh_py n d h
  unfold SeqAt.shaped
  rw [h1, Bool.true_and, decide_eq_true_eq]
  omega
section
variable {K : PySem.W.Frag} {B : Hp}
mutual
theorem Rep.dp : ∀ (n : Nat) {d : D} {v : V}, Sh n d → Rep K B v d → Dp K B v d.py
  | _, .non, _, _, h => by cases h; exact .non
  | _, .bl b, _, _, h => by cases h; exact .bl b
  | _, .int i, _, _, h => by cases h; exact .int i
  | _, .str x, _, _, h => by cases h; exact .str x
  | 0, .lst _, _, n, _ => by simp [Sh] at n
  | 0, .tup _, _, n, _ => by simp [Sh] at n
  | n + 1, .lst ds, _, s, h => by
    cases h with
    | lst ha hs => exact .lst (SqL.of ha) (Reps.dp n (by simpa [Sh] using s) hs)
  | n + 1, .tup ds, _, s, h => by
    cases h with
    | tup ha hs => exact .tup ha (Reps.dp n (by simpa [Sh] using s) hs)
  | n, .scr _, _, s, _ => by cases n <;> simp [Sh] at s
  | n, .exc _, _, s, _ => by cases n <;> simp [Sh] at s
theorem Reps.dp : ∀ (n : Nat) {ds : List D} {vs : List V}, (∀ x ∈ ds, Sh n x) → Reps K B vs ds → DpAll K B vs (D.pys ds)
  | _, [], _, _, h => by cases h; exact .nil
  | n, d :: ds, _, s, h => by
    cases h with
    | cons h1 h2 => exact .cons (Rep.dp n (s d List.mem_cons_self) h1) (Reps.dp n (fun x hx => s x (List.mem_cons_of_mem _ hx)) h2)
end
mutual
theorem dp_same {B' : Hp} (e : Same B B') : ∀ {d : PyData} {v : V}, Dp K B v d → Dp K B' v d
  | .none, _, h => by cases h; exact .non
  | .bool _, _, h => by cases h; exact .bl _
  | .int _, _, h => by cases h; exact .int _
  | .str _, _, h => by cases h; exact .str _
  | .list ds, _, h => by
    cases h with
    | lst ha hs => exact .lst (e.seq ha) (dpAll_same e hs)
  | .tuple ds, _, h => by
    cases h with
    | tup ha hs => exact .tup (same_t e ha) (dpAll_same e hs)
  | .dict _, _, h => by cases h
theorem dpAll_same {B' : Hp} (e : Same B B') : ∀ {ds : List PyData} {vs : List V}, DpAll K B vs ds → DpAll K B' vs ds
  | [], _, h => by cases h; exact .nil
  | d :: ds, _, h => by
    cases h with
    | cons h1 h2 => exact .cons (dp_same e h1) (dpAll_same e h2)
end
end
def D.eqv (a b : D) : Bool := PyData.eqv a.py b.py
def isN : D → Bool
  | .non => true
  | _ => false
/-- a in b's items -/
def inD (a : D) (bs : List D) : Bool := bs.any fun z => D.eqv z a

/-! ### comparisons -/
inductive CmpD : CmpOp → D → D → Bool → Prop
  | lt {i j : Int} : CmpD .Lt (.int i) (.int j) (decide (i < j))
  | le {i j : Int} : CmpD .LtE (.int i) (.int j) (decide (i ≤ j))
  | gt {i j : Int} : CmpD .Gt (.int i) (.int j) (decide (j < i))
  | ge {i j : Int} : CmpD .GtE (.int i) (.int j) (decide (j ≤ i))
  | eqI {i j : Int} : CmpD .Eq (.int i) (.int j) (decide (i = j))
  | neI {i j : Int} : CmpD .NotEq (.int i) (.int j) (!decide (i = j))
  | eqS {i j : Str} : CmpD .Eq (.str i) (.str j) (decide (i = j))
  | neS {i j : Str} : CmpD .NotEq (.str i) (.str j) (!decide (i = j))
  | eqB {i j : Bool} : CmpD .Eq (.bl i) (.bl j) (decide (i = j))
  | eq {a b : D} (n : Nat) (hn : n ≤ 60) (ha : Sh n a) (hb : Sh n b) : CmpD .Eq a b (D.eqv a b)
  | ne {a b : D} (n : Nat) (hn : n ≤ 60) (ha : Sh n a) (hb : Sh n b) : CmpD .NotEq a b (!D.eqv a b)
  | isN {a : D} : CmpD .Is a .non (isN a)
  | notN {a : D} : CmpD .IsNot a .non (!isN a)
  | inL {a : D} {bs : List D} (n : Nat) (hn : n ≤ 59) (ha : Sh n a) (hb : ∀ b ∈ bs, Sh n b) : CmpD .In a (.lst bs) (inD a bs)
  | ninL {a : D} {bs : List D} (n : Nat) (hn : n ≤ 59) (ha : Sh n a) (hb : ∀ b ∈ bs, Sh n b) : CmpD .NotIn a (.lst bs) (!inD a bs)
  | inTI {i : Int} {js : List Int} : CmpD .In (.int i) (.tup (js.map .int)) (js.any fun j => decide (j = i))
  | inTS {i : Str} {js : List Str} : CmpD .In (.str i) (.tup (js.map .str)) (js.any fun j => decide (j = i))
  | ninTS {i : Str} {js : List Str} : CmpD .NotIn (.str i) (.tup (js.map .str)) (!js.any fun j => decide (j = i))
  | inS {c : Nat} {z : Str} : CmpD .In (.str ⟨#[c]⟩) (.str z) (decide (c ∈ z.cps.toList))
theorem inV_int (i : Int) : ∀ js : List Int, inV (.int i) (js.map V.int) = js.any fun j => decide (j = i)
  | [] => rfl
  | j :: js => by
    have ih := inV_int i js
    unfold inV at ih ⊢
    rw [List.map_cons, List.any_cons, List.any_cons, ih]
    congr 1
theorem inV_str (i : Str) : ∀ js : List Str, inV (.str i) (js.map V.str) = js.any fun j => decide (j = i)
  | [] => rfl
  | j :: js => by
    have ih := inV_str i js
    unfold inV at ih ⊢
    rw [List.map_cons, List.any_cons, List.any_cons, ih]
    congr 1
section
variable {X : Cx} {W : WX} {k : Nat} {e a b c : Expr} {es : List Expr} {s s' s1 s2 s3 : A} {d d' da db dc : D} {r : Res} {ds : List D} {xs ys : List D} {pos p2 p : Pos} {x : Str} {β β1 β2 : Bool} {op : CmpOp}
/-- the rule of a comparison, told by what its two sides are -/
theorem cmp_rule (hu : X.A.units + 65 < cLine) (h : CmpD op da db β) : ∃ r : R2, OpR X (compareOp op) r ∧ ∀ (B H : Hp) (x y : V) (Q : VK), Same B H → Rep X.K B x da → Rep X.K B y db → Q (.bl β) H → r x y H Q := by
  cases h with
  | lt => exact ⟨_, op_lt, fun B H x y Q sm rx ry q => by cases rx; cases ry; exact ⟨_, _, rfl, rfl, q⟩⟩
  | le => exact ⟨_, op_le, fun B H x y Q sm rx ry q => by cases rx; cases ry; exact ⟨_, _, rfl, rfl, q⟩⟩
  | gt => exact ⟨_, op_gt, fun B H x y Q sm rx ry q => by cases rx; cases ry; exact ⟨_, _, rfl, rfl, q⟩⟩
  | ge => exact ⟨_, op_ge, fun B H x y Q sm rx ry q => by cases rx; cases ry; exact ⟨_, _, rfl, rfl, q⟩⟩
  | eqI => exact ⟨_, op_eq, fun B H x y Q sm rx ry q => by cases rx; cases ry; exact ⟨rfl, by rw [dec_int, Bool.beq_eq_decide_eq]; exact q⟩⟩
  | neI => exact ⟨_, op_ne, fun B H x y Q sm rx ry q => by cases rx; cases ry; exact ⟨rfl, by rw [dec_int, Bool.beq_eq_decide_eq]; exact q⟩⟩
  | @eqS i j => exact ⟨_, op_eq, fun B H x y Q sm rx ry q => by
      cases rx; cases ry
      refine ⟨rfl, ?_⟩
      have e : decide (V.str i = V.str j) = decide (i = j) := by
        by_cases z : i = j
        · subst z; simp
        · rw [decide_eq_false z, decide_eq_false (fun q => z (V.str.inj q))]
      rw [e]; exact q⟩
  | @neS i j => exact ⟨_, op_ne, fun B H x y Q sm rx ry q => by
      cases rx; cases ry
      refine ⟨rfl, ?_⟩
      have e : decide (V.str i = V.str j) = decide (i = j) := by
        by_cases z : i = j
        · subst z; simp
        · rw [decide_eq_false z, decide_eq_false (fun q => z (V.str.inj q))]
      rw [e]; exact q⟩
  | @eqB i j => exact ⟨_, op_eq, fun B H x y Q sm rx ry q => by
      cases rx; cases ry
      refine ⟨rfl, ?_⟩
      have e : decide (V.bl i = V.bl j) = decide (i = j) := by cases i <;> cases j <;> rfl
      rw [e]; exact q⟩
  | eq n hn ha hb => exact ⟨_, op_eqD (by omega), fun B H x y Q sm rx ry q => ⟨_, _, dp_same sm (rx.dp n ha), dp_same sm (ry.dp n hb), shaped_of ha hn, shaped_of hb hn, q⟩⟩
  | ne n hn ha hb => exact ⟨_, op_neD (by omega), fun B H x y Q sm rx ry q => ⟨_, _, dp_same sm (rx.dp n ha), dp_same sm (ry.dp n hb), shaped_of ha hn, shaped_of hb hn, q⟩⟩
  | isN => exact ⟨_, op_isN, fun B H x y Q sm rx ry q => by
      cases ry
      refine ⟨rfl, ?_⟩
      have e : decide (x = V.non) = DL.isN da := by cases rx <;> rfl
      rw [e]; exact q⟩
  | notN => exact ⟨_, op_notN, fun B H x y Q sm rx ry q => by
      cases ry
      refine ⟨rfl, ?_⟩
      have e : decide (x = V.non) = DL.isN da := by cases rx <;> rfl
      rw [e]; exact q⟩
  | @inL a bs n hn ha hb => exact ⟨_, op_inD hu, fun B H x y Q sm rx ry q => by
      have sb : Sh (n + 1) (.lst bs) := by simpa [Sh] using hb
      refine ⟨_, _, dp_same sm (rx.dp n ha), by have z := dp_same sm (ry.dp (n + 1) sb); rw [D.py] at z; exact z, shaped_of ha (by omega), by have z := shaped_of sb (by omega); rw [D.py] at z; exact z, ?_⟩
      have e : ((D.pys bs).any fun z => PyData.eqv z da.py) = inD da bs := by rw [pys_map, List.any_map]; rfl
      rw [e]; exact q⟩
  | @ninL a bs n hn ha hb => exact ⟨_, op_notInD hu, fun B H x y Q sm rx ry q => by
      have sb : Sh (n + 1) (.lst bs) := by simpa [Sh] using hb
      refine ⟨_, _, dp_same sm (rx.dp n ha), by have z := dp_same sm (ry.dp (n + 1) sb); rw [D.py] at z; exact z, shaped_of ha (by omega), by have z := shaped_of sb (by omega); rw [D.py] at z; exact z, ?_⟩
      have e : ((D.pys bs).any fun z => PyData.eqv z da.py) = inD da bs := by rw [pys_map, List.any_map]; rfl
      rw [e]; exact q⟩
  | @inTI i js => exact ⟨_, op_in_seq, fun B H x y Q sm rx ry q => by
      cases rx
      cases ry with
      | tup ht hv =>
        have e := hv.ints
        subst e
        refine ⟨_, _, rfl, .inr (same_t sm ht), rfl, by simp [flatV], ?_⟩
        rw [inV_int]
        exact q⟩
  | @inTS i js => exact ⟨_, op_in_seq, fun B H x y Q sm rx ry q => by
      cases rx
      cases ry with
      | tup ht hv =>
        have e := hv.strs
        subst e
        refine ⟨_, _, rfl, .inr (same_t sm ht), rfl, by simp [flatV], ?_⟩
        rw [inV_str]
        exact q⟩
  | @ninTS i js => exact ⟨_, op_notIn_seq, fun B H x y Q sm rx ry q => by
      cases rx
      cases ry with
      | tup ht hv =>
        have e := hv.strs
        subst e
        refine ⟨_, _, rfl, .inr (same_t sm ht), rfl, by simp [flatV], ?_⟩
        rw [inV_str]
        exact q⟩
  | inS => exact ⟨_, op_in_sign, fun B H x y Q sm rx ry q => by cases rx; cases ry; exact ⟨_, _, rfl, rfl, q⟩⟩
theorem Cok.u65 (C : Cok X W k) : X.A.units + 65 < cLine := by
  have h := C.hr.un
  omega
theorem je_cmp {V : WX} (C : Cok X V k) (ha : JE X W a s (.ok da) s1) (hb : JE X W b s1 (.ok db) s2) (h : CmpD op da db β) (hm : behindInMarks op b = false := by first | exact nomark _ | rfl) : JE X W (.Compare a [op] [b] pos) s (.ok (.bl β)) s2 := by
  obtain ⟨r, ho, hr⟩ := cmp_rule C.u65 h
  exact je_of (pe_cmpR ho pe_w pe_w hm) fun as B H σ ok Q q => Ok.two ha hb ok fun x y B2 H2 e2 o2 rx ry => hr B2 H2 x y _ o2.sm rx ry (q _ B2 H2 e2 o2 (.bl _))
theorem jt_cmp (C : Cok X W k) (ha : JE X WN a s (.ok da) s) (hb : JE X WN b s (.ok db) s) (h : CmpD op da db β) (hm : behindInMarks op b = false := by first | exact nomark _ | rfl) : JT X (.Compare a [op] [b] pos) s β := by
  obtain ⟨r, ho, hr⟩ := cmp_rule C.u65 h
  exact jt_of (pt_cmpR ho pe_w pe_w hm) fun as B H σ ok Q q => Ok.two ha hb ok fun x y B2 H2 e2 o2 rx ry => hr B2 H2 x y _ o2.sm rx ry ⟨_, rfl, q B2 H2 e2 o2⟩
theorem op_nev {f : Value → Value → Sem Value} : OpR X f (fun _ _ _ _ => False) := fun _ _ _ _ _ _ _ _ _ _ _ _ h => h.elim
/-- a op b op' c -/
theorem je_chain {op' : CmpOp} {V : WX} (C : Cok X V k) (ha : JE X W a s (.ok da) s) (hb : JE X W b s (.ok db) s) (h : CmpD op da db β1) (hc : β1 = true → JE X W c s (.ok dc) s ∧ CmpD op' db dc β2) (hm : lastMarks [op, op'] [b, c] = false := by with_unfolding_all rfl) :
    JE X W (.Compare a [op, op'] [b, c] pos) s (.ok (.bl (β1 && β2))) s := by
  obtain ⟨r, ho, hr⟩ := cmp_rule C.u65 h
  cases β1 with
  | true =>
    obtain ⟨hc, h'⟩ := hc rfl
    obtain ⟨r', ho', hr'⟩ := cmp_rule C.u65 h'
    exact je_of (pe_chain ho ho' pe_w pe_w pe_w hm) fun as B H σ ok Q q => Ok.two ha hb ok fun x y B2 H2 e2 o2 rx ry => hr B2 H2 x y _ o2.sm rx ry ⟨true, rfl, by
      rw [if_pos rfl]
      exact Ok.one hc o2 fun z B3 H3 e3 o3 rz => hr' B3 H3 y z _ o3.sm (ry.mono e3.b) rz (q _ B3 H3 (e2.trans e3) o3 (.bl _))⟩
  | false =>
    exact je_of (pe_chain ho op_nev pe_w pe_w pe_w hm) fun as B H σ ok Q q => Ok.two ha hb ok fun x y B2 H2 e2 o2 rx ry => hr B2 H2 x y _ o2.sm rx ry ⟨false, rfl, by
      rw [if_neg (by decide)]
      exact q _ B2 H2 e2 o2 (.bl _)⟩ 
end
end DL
set_option Elab.async false
set_option linter.all false
set_option maxRecDepth 100000
set_option maxHeartbeats 4000000
set_option autoImplicit true
/-! DLd: tests, built-in calls, methods -/
namespace DL
open PySem PySem.Spec PyProof.Rows L2
section
variable {X : Cx} {W : WX} {k : Nat} {e a b c : Expr} {es rest : List Expr} {s s' s1 s2 s3 : A} {d d' da db dc : D} {r : Res} {ds : List D} {xs ys : List D} {pos p2 p apos : Pos} {x : Str} {β β1 β2 : Bool} {op : CmpOp}
/-! ### tests -/
theorem jt_val (h : JE X WN e s (.ok (.bl β)) s) (he : ∀ whole, isTrue e X.env whole = (do let v ← whole; standAt e.pos; holding [v] (truthy v)) := by intro _; rfl) : JT X e s β :=
  jt_of (pt_val pe_w he) fun as B H σ ok Q q => Ok.one h ok fun x B1 H1 e1 o1 r1 => by
    cases r1
    exact ⟨_, rfl, q B1 H1 e1 o1⟩
def truD : D → Bool
  | .non => false
  | .bl b => b
  | .int i => i != 0
  | .str s => (s.length : Int) != 0
  | .lst xs => !xs.isEmpty
  | .tup xs => !xs.isEmpty
  | .scr ns => !ns.isEmpty
  | .exc _ => true
theorem isEmpty_len {α β : Type} {l : List α} {m : List β} (h : l.length = m.length) : l.isEmpty = m.isEmpty := by
  cases l with
  | nil => cases m with
    | nil => rfl
    | cons b m => simp at h
  | cons a l => cases m with
    | nil => simp at h
    | cons b m => rfl
/-- lists, tuples, the script by their emptiness -/
theorem jt_tru (h : JE X WN e s (.ok d) s) (hd : (∃ xs, d = .lst xs) ∨ (∃ xs, d = .tup xs) ∨ (∃ ns, d = .scr ns) := by first | exact .inl ⟨_, rfl⟩ | exact .inr (.inl ⟨_, rfl⟩) | exact .inr (.inr ⟨_, rfl⟩)) (he : ∀ whole, isTrue e X.env whole = (do let v ← whole; standAt e.pos; holding [v] (truthy v)) := by intro _; rfl) : JT X e s (truD d) :=
  jt_of (pt_truth pe_w he) fun as B H σ ok Q q => Ok.one h ok fun x B1 H1 e1 o1 r1 => by
    rcases hd with ⟨xs, rfl⟩ | ⟨xs, rfl⟩ | ⟨ns, rfl⟩
    · cases r1 with
      | lst ha hs => exact ⟨_, .inl ⟨_, .inl (.inl (o1.sm _ _ ha)), by rw [isEmpty_len hs.length]; rfl⟩, q B1 H1 e1 o1⟩
    · cases r1 with
      | tup ha hs => exact ⟨_, .inr (.inl ⟨_, same_t o1.sm ha, by rw [isEmpty_len hs.length]; rfl⟩), q B1 H1 e1 o1⟩
    · cases r1 with
      | scr ha => exact ⟨_, .inl ⟨_, o1.sm.seq ha, by rw [isEmpty_len (List.length_map ..)]; rfl⟩, q B1 H1 e1 o1⟩
theorem jt_not (h : JT X e s β) : JT X (.UnaryOp .Not e pos) s (!β) := jt_of (pt_not pt_w) fun as B H σ ok Q q => h as B H σ ok _ fun B1 H1 e1 o1 => q B1 H1 e1 o1
theorem jw_and1 (h : JT X e s β) : JW X (.BoolOp .And [e] pos) s β := jw_of (pw_and1 pt_w) h
theorem jw_or1 (h : JT X e s β) : JW X (.BoolOp .Or [e] pos) s β := jw_of (pw_or1 pt_w) h
theorem jw_andC (h : JT X e s β1) (h2 : β1 = true → JW X (.BoolOp .And (b :: rest) pos) s β2) : JW X (.BoolOp .And (e :: b :: rest) pos) s (β1 && β2) :=
  jw_of (pw_and pt_w pw_w) fun as B H σ ok Q q => h as B H σ ok _ fun B1 H1 e1 o1 => by
    cases β1 with
    | true => exact iteT (h2 rfl as B1 H1 σ o1 _ fun B2 H2 e2 o2 => q B2 H2 (e1.trans e2) o2)
    | false => exact iteF (q B1 H1 e1 o1)
theorem jw_orC (h : JT X e s β1) (h2 : β1 = false → JW X (.BoolOp .Or (b :: rest) pos) s β2) : JW X (.BoolOp .Or (e :: b :: rest) pos) s (β1 || β2) :=
  jw_of (pw_or pt_w pw_w) fun as B H σ ok Q q => h as B H σ ok _ fun B1 H1 e1 o1 => by
    cases β1 with
    | false => exact iteF (h2 rfl as B1 H1 σ o1 _ fun B2 H2 e2 o2 => q B2 H2 (e1.trans e2) o2)
    | true => exact iteT (q B1 H1 e1 o1)
theorem jw_and (h : JT X e s β1) (h2 : JW X (.BoolOp .And (b :: rest) pos) s β2) : JW X (.BoolOp .And (e :: b :: rest) pos) s (β1 && β2) := jw_andC h fun _ => h2
theorem jw_or (h : JT X e s β1) (h2 : JW X (.BoolOp .Or (b :: rest) pos) s β2) : JW X (.BoolOp .Or (e :: b :: rest) pos) s (β1 || β2) := jw_orC h fun _ => h2
theorem jt_w (h : JW X e s β) : JT X e s β := jt_of (PW.pt pw_w) h
/-! ### .. as values -/
theorem je_not (h : JE X W e s (.ok (.bl β)) s) : JE X W (.UnaryOp .Not e pos) s (.ok (.bl (!β))) s := je_of (pe_not pe_w) fun as B H σ ok Q q => Ok.one h ok fun x B1 H1 e1 o1 r1 => by
  cases r1
  exact ⟨_, rfl, q _ B1 H1 e1 o1 (.bl _)⟩
theorem je_one {bop : BoolOp} (h : JE X W e s r s1) : JE X W (.BoolOp bop [e] pos) s r s1 := fun as B H σ ok Q q => wE_of (pe_one pe_w) (h as B H σ ok Q q)
theorem je_and (h : JE X W e s (.ok (.bl β1)) s) (h2 : β1 = true → JE X W (.BoolOp .And (b :: rest) pos) s (.ok d) s) (h3 : β1 = false → d = .bl false) : JE X W (.BoolOp .And (e :: b :: rest) pos) s (.ok d) s :=
  je_of (pe_and pe_w pe_w) fun as B H σ ok Q q => Ok.one h ok fun x B1 H1 e1 o1 r1 => by
    cases r1
    refine ⟨_, rfl, ?_⟩
    cases β1 with
    | true => exact iteT (Ok.one (h2 rfl) o1 fun x B2 H2 e2 o2 r2 => q _ B2 H2 (e1.trans e2) o2 r2)
    | false =>
      have z := h3 rfl
      subst z
      exact iteF (q _ B1 H1 e1 o1 (.bl _))
theorem je_or (h : JE X W e s (.ok (.bl β1)) s) (h2 : β1 = false → JE X W (.BoolOp .Or (b :: rest) pos) s (.ok d) s) (h3 : β1 = true → d = .bl true) : JE X W (.BoolOp .Or (e :: b :: rest) pos) s (.ok d) s :=
  je_of (pe_or pe_w pe_w) fun as B H σ ok Q q => Ok.one h ok fun x B1 H1 e1 o1 r1 => by
    cases r1
    refine ⟨_, rfl, ?_⟩
    cases β1 with
    | false => exact iteF (Ok.one (h2 rfl) o1 fun x B2 H2 e2 o2 r2 => q _ B2 H2 (e1.trans e2) o2 r2)
    | true =>
      have z := h3 rfl
      subst z
      exact iteT (q _ B1 H1 e1 o1 (.bl _))
theorem je_if (ht : JT X c s β) (h1 : β = true → JE X W a s r s1) (h2 : β = false → JE X W b s r s1) : JE X W (.IfExp c a b pos) s r s1 := fun as B H σ ok Q q =>
  wE_of (pe_ifExp pt_w pe_w pe_w) (ht as B H σ ok _ fun B1 H1 e1 o1 => by
    have go : OutE X.K W as B1 H1 σ s1 Q r := by
      cases r with
      | ok d => exact fun v B2 H2 e2 o2 r2 => q v B2 H2 (e1.trans e2) o2 r2
      | er c => exact fun B2 H2 e2 o2 => q B2 H2 (e1.trans e2) o2
    cases β with
    | true => exact iteT (h1 rfl as B1 H1 σ o1 Q go)
    | false => exact iteF (h2 rfl as B1 H1 σ o1 Q go))

/-! ### built-in calls -/
/-- a call of one argument, by the rule of values -/
theorem je_call1 {id : String} {rr : List V → Hp → VK → Prop} (hc : CallR X (.builtin id) rr) (ha : JE X W a s (.ok da) s1)
    (h : ∀ as B H B1 H1 σ v Q, Ext as B H as B1 H1 → Ok X.K as B1 H1 σ s1 → Rep X.K B1 v da → (∀ v B' H', Ext as B H as B' H' → Ok X.K as B' H' σ s1 → Rep X.K B' v d → Q v H') → rr [v] H1 Q)
    (hm : X.mg x = none) (hv : bootBuiltins x = some (.builtin id)) (hg : Gl X x := by rfl) (hn : x ≠ "__name__" := by decide) (hdb : (x == ("__debug__" : Str)) = false := by decide)
    (he : starEach (a :: []) X.env = (false, eval a X.env) :: starEach [] X.env := by rfl) (hpl : (backTo pos (starEach [] X.env)).any (·.1) = false := by rfl) : JE X W (.Call (.Name x p) [a] [] pos) s (.ok d) s1 :=
  je_of (pe_callB hc hg hm hv (pa_cons pe_w pa_nil he) hn hdb he hpl) fun as B H σ ok Q q => Ok.one ha ok fun v B1 H1 e1 o1 r1 => h as B H B1 H1 σ v Q e1 o1 r1 q
theorem je_callT {id : String} {rr : List V → Hp → VK → Prop} (hc : CallR X (.type id) rr) (ha : JE X W a s (.ok da) s1)
    (h : ∀ as B H B1 H1 σ v Q, Ext as B H as B1 H1 → Ok X.K as B1 H1 σ s1 → Rep X.K B1 v da → (∀ v B' H', Ext as B H as B' H' → Ok X.K as B' H' σ s1 → Rep X.K B' v d → Q v H') → rr [v] H1 Q)
    (hm : X.mg x = none) (hv : bootBuiltins x = some (.type id)) (hg : Gl X x := by rfl) (hn : x ≠ "__name__" := by decide) (hdb : (x == ("__debug__" : Str)) = false := by decide)
    (he : starEach (a :: []) X.env = (false, eval a X.env) :: starEach [] X.env := by rfl) (hpl : (backTo pos (starEach [] X.env)).any (·.1) = false := by rfl) : JE X W (.Call (.Name x p) [a] [] pos) s (.ok d) s1 :=
  je_of (pe_callTy hc hg hm hv (pa_cons pe_w pa_nil he) hn hdb he hpl) fun as B H σ ok Q q => Ok.one ha ok fun v B1 H1 e1 o1 r1 => h as B H B1 H1 σ v Q e1 o1 r1 q
theorem jf_callT {id : String} {rr : List V → Hp → VK → Prop} (hc : CallR X (.type id) rr) (ha : JE X WN a s (.ok da) s1)
    (h : ∀ as B H B1 H1 σ v Q, Ext as B H as B1 H1 → Ok X.K as B1 H1 σ s1 → Rep X.K B1 v da → (∀ p vs B' H', Ext as B H as B' H' → Ok X.K as B' H' σ s1 → H p = none → B' p = none → H' p = some (.lst vs) → Reps X.K B' vs xs → Q (.ref p) H') → rr [v] H1 Q)
    (hm : X.mg x = none) (hv : bootBuiltins x = some (.type id)) (hg : Gl X x := by rfl) (hn : x ≠ "__name__" := by decide) (hdb : (x == ("__debug__" : Str)) = false := by decide)
    (he : starEach (a :: []) X.env = (false, eval a X.env) :: starEach [] X.env := by rfl) (hpl : (backTo pos (starEach [] X.env)).any (·.1) = false := by rfl) : JF X (.Call (.Name x p) [a] [] pos) s xs s1 :=
  jf_of (pe_callTy hc hg hm hv (pa_cons pe_w pa_nil he) hn hdb he hpl) fun as B H σ ok Q q => Ok.one (W := WN) ha ok fun v B1 H1 e1 o1 r1 => h as B H B1 H1 σ v Q e1 o1 r1 q
inductive LenD : D → Int → Prop
  | lst {xs : List D} : LenD (.lst xs) xs.length
  | tup {xs : List D} : LenD (.tup xs) xs.length
  | scr {xs : List Int} : LenD (.scr xs) xs.length
  | str {z : Str} (h : z.length ≤ sizeLine) : LenD (.str z) z.length
theorem je_len {n : Int} (hm : X.mg "len" = none) (ha : JE X W a s (.ok da) s1) (h : LenD da n) (hg : Gl X "len" := by rfl)
    (he : starEach (a :: []) X.env = (false, eval a X.env) :: starEach [] X.env := by rfl) (hpl : (backTo pos (starEach [] X.env)).any (·.1) = false := by rfl) : JE X W (.Call (.Name "len" p) [a] [] pos) s (.ok (.int n)) s1 := by
  cases h with
  | lst => exact je_call1 call_len_seq ha (fun as B H B1 H1 σ v Q e1 o1 r1 q => by
      cases r1 with
      | lst h1 h2 => exact ⟨_, _, rfl, .inl (.inl (.inl (o1.sm _ _ h1))), by rw [h2.length]; exact q _ B1 H1 e1 o1 (.int _)⟩) hm PySem.boot_len hg (by decide) (by decide) he hpl
  | tup => exact je_call1 call_len_seq ha (fun as B H B1 H1 σ v Q e1 o1 r1 q => by
      cases r1 with
      | tup h1 h2 => exact ⟨_, _, rfl, .inr (same_t o1.sm h1), by rw [h2.length]; exact q _ B1 H1 e1 o1 (.int _)⟩) hm PySem.boot_len hg (by decide) (by decide) he hpl
  | scr => exact je_call1 call_len_seq ha (fun as B H B1 H1 σ v Q e1 o1 r1 q => by
      cases r1 with
      | scr h1 => exact ⟨_, _, rfl, .inl (o1.sm.seq h1), by rw [List.length_map]; exact q _ B1 H1 e1 o1 (.int _)⟩) hm PySem.boot_len hg (by decide) (by decide) he hpl
  | str hz => exact je_call1 call_len_str ha (fun as B H B1 H1 σ v Q e1 o1 r1 q => by
      cases r1
      exact ⟨_, rfl, hz, q _ B1 H1 e1 o1 (.int _)⟩) hm PySem.boot_len hg (by decide) (by decide) he hpl
theorem jf_list (hm : X.mg "list" = none) (ha : JE X WN a s (.ok da) s1) (hd : da = .lst xs ∨ da = .tup xs) (hg : Gl X "list" := by rfl)
    (he : starEach (a :: []) X.env = (false, eval a X.env) :: starEach [] X.env := by rfl) (hpl : (backTo pos (starEach [] X.env)).any (·.1) = false := by rfl) : JF X (.Call (.Name "list" p) [a] [] pos) s xs s1 := by
  rcases hd with rfl | rfl
  · exact jf_callT call_list_of ha (fun as B H B1 H1 σ v Q e1 o1 r1 q => by
      cases r1 with
      | lst h1 h2 => exact ⟨_, _, rfl, .inl (.inl (.inl (o1.sm _ _ h1))), fun p hp => Ok.newF e1 o1 hp h2 q⟩) hm (by decide +kernel) hg (by decide) (by decide) he hpl
  · exact jf_callT call_list_of ha (fun as B H B1 H1 σ v Q e1 o1 r1 q => by
      cases r1 with
      | tup h1 h2 => exact ⟨_, _, rfl, .inr (same_t o1.sm h1), fun p hp => Ok.newF e1 o1 hp h2 q⟩) hm (by decide +kernel) hg (by decide) (by decide) he hpl
theorem je_tuple (hm : X.mg "tuple" = none) (ha : JE X W a s (.ok (.lst xs)) s1) (hg : Gl X "tuple" := by rfl)
    (he : starEach (a :: []) X.env = (false, eval a X.env) :: starEach [] X.env := by rfl) (hpl : (backTo pos (starEach [] X.env)).any (·.1) = false := by rfl) : JE X W (.Call (.Name "tuple" p) [a] [] pos) s (.ok (.tup xs)) s1 :=
  je_callT call_tuple_of ha (fun as B H B1 H1 σ v Q e1 o1 r1 q => by
      cases r1 with
      | lst h1 h2 => exact ⟨_, _, rfl, .inl ⟨.inl (.inl (o1.sm _ _ h1)), fun p hp => by
          obtain ⟨o3, e3⟩ := o1.new (o := .tup _) hp
          exact q _ _ _ (e1.trans e3) o3 (.tup (.inl (.inl upd_same)) (h2.mono e3.b))⟩⟩) hm (by decide +kernel) hg (by decide) (by decide) he hpl
def b2i (b : Bool) : Int := if b then 1 else 0
theorem je_intB (hm : X.mg "int" = none) (ha : JE X W a s (.ok (.bl β)) s1) (hg : Gl X "int" := by rfl)
    (he : starEach (a :: []) X.env = (false, eval a X.env) :: starEach [] X.env := by rfl) (hpl : (backTo pos (starEach [] X.env)).any (·.1) = false := by rfl) : JE X W (.Call (.Name "int" p) [a] [] pos) s (.ok (.int (b2i β))) s1 :=
  je_callT call_int1 ha (fun as B H B1 H1 σ v Q e1 o1 r1 q => by
      cases r1
      exact .inr ⟨_, rfl, q _ B1 H1 e1 o1 (.int _)⟩) hm (by decide +kernel) hg (by decide) (by decide) he hpl
theorem je_strI {i : Int} (hm : X.mg "str" = none) (ha : JE X W a s (.ok (.int i)) s1) (hi : i.natAbs.log2 < 1920) (hg : Gl X "str" := by rfl)
    (he : starEach (a :: []) X.env = (false, eval a X.env) :: starEach [] X.env := by rfl) (hpl : (backTo pos (starEach [] X.env)).any (·.1) = false := by rfl) : JE X W (.Call (.Name "str" p) [a] [] pos) s (.ok (.str (toString i))) s1 :=
  je_callT call_str_int ha (fun as B H B1 H1 σ v Q e1 o1 r1 q => by
      cases r1
      exact ⟨_, rfl, hi, q _ B1 H1 e1 o1 (.str _)⟩) hm (by decide +kernel) hg (by decide) (by decide) he hpl
theorem je_all {bs : List Bool} {V : WX} (C : Cok X V k) (hm : X.mg "all" = none) (ha : JE X W a s (.ok (.lst (bs.map .bl))) s1) (hg : Gl X "all" := by rfl)
    (he : starEach (a :: []) X.env = (false, eval a X.env) :: starEach [] X.env := by rfl) (hpl : (backTo pos (starEach [] X.env)).any (·.1) = false := by rfl) : JE X W (.Call (.Name "all" p) [a] [] pos) s (.ok (.bl (bs.all id))) s1 :=
  je_call1 (cr_all C.calm) ha (fun as B H B1 H1 σ v Q e1 o1 r1 q => by
      cases r1 with
      | lst h1 h2 =>
        have z := h2.bls
        subst z
        exact ⟨_, bs, rfl, .inl (.inl (o1.sm _ _ h1)), q _ B1 H1 e1 o1 (.bl _)⟩) hm (by decide +kernel) hg (by decide) (by decide) he hpl
theorem je_any {bs : List Bool} {V : WX} (C : Cok X V k) (hm : X.mg "any" = none) (ha : JE X W a s (.ok (.lst (bs.map .bl))) s1) (hg : Gl X "any" := by rfl)
    (he : starEach (a :: []) X.env = (false, eval a X.env) :: starEach [] X.env := by rfl) (hpl : (backTo pos (starEach [] X.env)).any (·.1) = false := by rfl) : JE X W (.Call (.Name "any" p) [a] [] pos) s (.ok (.bl (bs.any id))) s1 :=
  je_call1 (cr_any C.calm) ha (fun as B H B1 H1 σ v Q e1 o1 r1 q => by
      cases r1 with
      | lst h1 h2 =>
        have z := h2.bls
        subst z
        exact ⟨_, bs, rfl, .inl (.inl (o1.sm _ _ h1)), q _ B1 H1 e1 o1 (.bl _)⟩) hm (by decide +kernel) hg (by decide) (by decide) he hpl
/-- the greatest, the least of a list of ints; a tuple of ints (min(t)) -/
theorem je_maxL {ns : List Int} {m : Int} {V : WX} (C : Cok X V k) (hm : X.mg "max" = none) (ha : JE X W a s (.ok (.lst (ns.map .int))) s1) (h1 : m ∈ ns) (h2 : ∀ y ∈ ns, y ≤ m) (hg : Gl X "max" := by rfl)
    (he : starEach (a :: []) X.env = (false, eval a X.env) :: starEach [] X.env := by rfl) (hpl : (backTo pos (starEach [] X.env)).any (·.1) = false := by rfl) : JE X W (.Call (.Name "max" p) [a] [] pos) s (.ok (.int m)) s1 :=
  je_call1 (cr_max C.calm) ha (fun as B H B1 H1 σ v Q e1 o1 r1 q => by
      cases r1 with
      | lst g1 g2 =>
        have z := g2.ints
        subst z
        refine ⟨_, ns, rfl, .inl (.inl (o1.sm _ _ g1)), List.length_pos_of_mem h1, fun m' hm' hle => ?_⟩
        have e : m' = m := Int.le_antisymm (h2 _ hm') (hle _ h1)
        subst e
        exact q _ B1 H1 e1 o1 (.int _)) hm (by decide +kernel) hg (by decide) (by decide) he hpl
theorem je_minL {ns : List Int} {m : Int} {V : WX} (C : Cok X V k) (hm : X.mg "min" = none) (ha : JE X W a s (.ok (.lst (ns.map .int))) s1) (h1 : m ∈ ns) (h2 : ∀ y ∈ ns, m ≤ y) (hg : Gl X "min" := by rfl)
    (he : starEach (a :: []) X.env = (false, eval a X.env) :: starEach [] X.env := by rfl) (hpl : (backTo pos (starEach [] X.env)).any (·.1) = false := by rfl) : JE X W (.Call (.Name "min" p) [a] [] pos) s (.ok (.int m)) s1 :=
  je_call1 (cr_min C.calm) ha (fun as B H B1 H1 σ v Q e1 o1 r1 q => by
      cases r1 with
      | lst g1 g2 =>
        have z := g2.ints
        subst z
        refine ⟨_, ns, rfl, .inl (.inl (o1.sm _ _ g1)), List.length_pos_of_mem h1, fun m' hm' hle => ?_⟩
        have e : m' = m := Int.le_antisymm (hle _ h1) (h2 _ hm')
        subst e
        exact q _ B1 H1 e1 o1 (.int _)) hm (by decide +kernel) hg (by decide) (by decide) he hpl
theorem je_max2 {i j : Int} {V : WX} (C : Cok X V k) (hm : X.mg "max" = none) (ha : JE X W a s (.ok (.int i)) s1) (hb : JE X W b s1 (.ok (.int j)) s2) (hg : Gl X "max" := by rfl)
    (h1 : starEach (b :: []) X.env = (false, eval b X.env) :: starEach [] X.env := by rfl) (he : starEach (a :: [b]) X.env = (false, eval a X.env) :: starEach [b] X.env := by rfl) (hpl : (backTo pos (starEach [b] X.env)).any (·.1) = false := by rfl) :
    JE X W (.Call (.Name "max" p) [a, b] [] pos) s (.ok (.int (max i j))) s2 :=
  je_of (pe_callB (call_max2 C.calm) hg hm (by decide +kernel) (pa_cons pe_w (pa_cons pe_w pa_nil h1) he) (by decide) (by decide) he hpl) fun as B H σ ok Q q => Ok.two ha hb ok fun x y B2 H2 e2 o2 rx ry => by
    cases rx; cases ry
    have e : (if j > i then j else i) = max i j := by omega
    exact ⟨i, j, rfl, by rw [e]; exact q _ B2 H2 e2 o2 (.int _)⟩
theorem je_min2 {i j : Int} {V : WX} (C : Cok X V k) (hm : X.mg "min" = none) (ha : JE X W a s (.ok (.int i)) s1) (hb : JE X W b s1 (.ok (.int j)) s2) (hg : Gl X "min" := by rfl)
    (h1 : starEach (b :: []) X.env = (false, eval b X.env) :: starEach [] X.env := by rfl) (he : starEach (a :: [b]) X.env = (false, eval a X.env) :: starEach [b] X.env := by rfl) (hpl : (backTo pos (starEach [b] X.env)).any (·.1) = false := by rfl) :
    JE X W (.Call (.Name "min" p) [a, b] [] pos) s (.ok (.int (min i j))) s2 :=
  je_of (pe_callB (call_min2 C.calm) hg hm (by decide +kernel) (pa_cons pe_w (pa_cons pe_w pa_nil h1) he) (by decide) (by decide) he hpl) fun as B H σ ok Q q => Ok.two ha hb ok fun x y B2 H2 e2 o2 rx ry => by
    cases rx; cases ry
    have e : (if j < i then j else i) = min i j := by omega
    exact ⟨i, j, rfl, by rw [e]; exact q _ B2 H2 e2 o2 (.int _)⟩
end
end DL
set_option Elab.async false
set_option linter.all false
set_option maxRecDepth 100000
set_option maxHeartbeats 4000000
set_option autoImplicit true
/-! DLe: statements, loops, comprehensions -/
namespace DL
open PySem PySem.Spec PyProof.Rows L2
/-! ### the widest readings -/
def wS (X : Cx) (st : Stmt) : TS := fun D σ H => ∀ (pins : List (Addr × Obj)) (s : Shared), Inv X pins σ H s → wpAny (model X.prog X.w) X.A (exec st X.env) (SP X pins D) X.xe s
theorem ps_w {X : Cx} {st : Stmt} : PS X st (wS X st) := ⟨fun pins s σ H D I h => h pins s I⟩
theorem wS_of {X : Cx} {st : Stmt} {t : TS} {D : Ends} {σ : L2.St} {H : Hp} (h : PS X st t) (q : t D σ H) : wS X st D σ H := fun pins s I => h.run pins s σ H D I q
def wB (X : Cx) (st : List Stmt) : TS := fun D σ H => ∀ (pins : List (Addr × Obj)) (s : Shared), Inv X pins σ H s → wpAny (model X.prog X.w) X.A (execs st X.env) (SP X pins D) X.xe s
theorem pss_w {X : Cx} {st : List Stmt} : PSs X st (wB X st) := ⟨fun pins s σ H D I h => h pins s I⟩
theorem wB_of {X : Cx} {st : List Stmt} {t : TS} {D : Ends} {σ : L2.St} {H : Hp} (h : PSs X st t) (q : t D σ H) : wB X st D σ H := fun pins s I => h.run pins s σ H D I q
def wG (X : Cx) (tg : Expr) : TG := fun v σ H Q => ∀ (pins : List (Addr × Obj)) (s : Shared) (u : Value), Inv X pins σ H s → RelV v u → wpAny (model X.prog X.w) X.A (assign tg X.env u) (fun _ s' => ∃ σ' H', Inv X pins σ' H' s' ∧ Q σ' H') X.xe s
def wGs (X : Cx) (tgs : List Expr) : TGs := fun vs σ H Q => ∀ (pins : List (Addr × Obj)) (s : Shared) (us : List Value), Inv X pins σ H s → Vals vs us → wpAny (model X.prog X.w) X.A (assignInOrder ((assignEach tgs X.env).map (·.2)) us) (fun _ s' => ∃ σ' H', Inv X pins σ' H' s' ∧ Q σ' H') X.xe s
theorem pgs_w {X : Cx} {tgs : List Expr} : PGs X tgs (wGs X tgs) := ⟨fun pins s σ H vs us Q I r h => h pins s us I r⟩
theorem wGs_of {X : Cx} {tgs : List Expr} {g : TGs} {vs : List V} {σ : L2.St} {H : Hp} {Q : L2.St → Hp → Prop} (h : PGs X tgs g) (q : g vs σ H Q) : wGs X tgs vs σ H Q := fun pins s us I r => h.run pins s σ H vs us Q I r q
theorem pg_w {X : Cx} {tg : Expr} : PG X tg (wG X tg) := ⟨fun pins s σ H v u Q I r h => h pins s u I r⟩
theorem wG_of {X : Cx} {tg : Expr} {g : TG} {v : V} {σ : L2.St} {H : Hp} {Q : L2.St → Hp → Prop} (h : PG X tg g) (q : g v σ H Q) : wG X tg v σ H Q := fun pins s u I r => h.run pins s σ H v u Q I r q
def wI (X : Cx) (tg iter : Expr) : TI := fun σ H R => ∀ (pins : List (Addr × Obj)) (s : Shared), Inv X pins σ H s →
    wpAny (model X.prog X.w) X.A (eval iter X.env) (fun lv t1 => wpAny (model X.prog X.w) X.A (pyIter lv) (PIE X pins σ tg R) X.xe t1) X.xe s
theorem pi_w {X : Cx} {tg iter : Expr} : PI X tg iter (wI X tg iter) := ⟨fun pins s σ H R I h => h pins s I⟩
theorem wI_of {X : Cx} {tg iter : Expr} {t : TI} {σ : L2.St} {H : Hp} {R : It → Hp → Prop} (h : PI X tg iter t) (q : t σ H R) : wI X tg iter σ H R := fun pins s I => h.run pins s σ H R I q

/-- what is wanted behind a statement: next, return, break, continue, an error -/
structure Po where
  nx : A → Prop
  rt : D → List Cl → Prop
  bk : A → Prop
  ct : A → Prop
  ex : Addr → A → Prop
structure Fits (K : PySem.W.Frag) (W : WX) (as : List Addr) (B H : Hp) (P : Po) (Dn : Ends) : Prop where
  nx : ∀ as' B' H' σ' s', Ext as B H as' B' H' → Ok K as' B' H' σ' s' → P.nx s' → Dn.nx σ' H'
  rt : ∀ as' B' H' σ' s' v d, Ext as B H as' B' H' → Ok K as' B' H' σ' s' → Rep K B' v d → P.rt d s'.cl → Dn.rt v H'
  bk : ∀ as' B' H' σ' s', Ext as B H as' B' H' → Ok K as' B' H' σ' s' → P.bk s' → Dn.bk σ' H'
  ct : ∀ as' B' H' σ' s', Ext as B H as' B' H' → Ok K as' B' H' σ' s' → P.ct s' → Dn.ct σ' H'
  ex : ∀ as' B' H' σ' s' c, Ext as B H as' B' H' → Ok K as' B' H' σ' s' → P.ex c s' → W (.ref c) none σ' H'
theorem Fits.on {K : PySem.W.Frag} {W : WX} {as as1 : List Addr} {B H B1 H1 : Hp} {P : Po} {Dn : Ends} (f : Fits K W as B H P Dn) (e : Ext as B H as1 B1 H1) : Fits K W as1 B1 H1 P Dn :=
  ⟨fun as' B' H' σ' s' x => f.nx as' B' H' σ' s' (e.trans x), fun as' B' H' σ' s' v d x => f.rt as' B' H' σ' s' v d (e.trans x), fun as' B' H' σ' s' x => f.bk as' B' H' σ' s' (e.trans x), fun as' B' H' σ' s' x => f.ct as' B' H' σ' s' (e.trans x), fun as' B' H' σ' s' c x => f.ex as' B' H' σ' s' c (e.trans x)⟩
def JS (X : Cx) (W : WX) (st : Stmt) (s : A) (P : Po) : Prop := ∀ as B H σ, Ok X.K as B H σ s → ∀ Dn : Ends, Fits X.K W as B H P Dn → wS X st Dn σ H
def JB (X : Cx) (W : WX) (st : List Stmt) (s : A) (P : Po) : Prop := ∀ as B H σ, Ok X.K as B H σ s → ∀ Dn : Ends, Fits X.K W as B H P Dn → wB X st Dn σ H
/-- the item d is stored at a target -/
def JG (X : Cx) (tg : Expr) (d : D) (s : A) (R : A → Prop) : Prop := ∀ as B H σ v, Ok X.K as B H σ s → Rep X.K B v d → ∀ Q : L2.St → Hp → Prop, (∀ σ' s', Ok X.K as B H σ' s' → R s' → Q σ' H) → wG X tg v σ H Q
def JGs (X : Cx) (tgs : List Expr) (ds : List D) (s : A) (R : A → Prop) : Prop := ∀ as B H σ vs, Ok X.K as B H σ s → Reps X.K B vs ds → ∀ Q : L2.St → Hp → Prop, (∀ σ' s', Ok X.K as B H σ' s' → R s' → Q σ' H) → wGs X tgs vs σ H Q
/-- an iterator that gives ds, one by one, while B stays -/
structure ItD (K : PySem.W.Frag) (B : Hp) (J : It) (ds : List D) : Prop where
  go : ∀ i H, i < ds.length → Same B H → J.go i H
  stop : ∀ H, Same B H → J.stop ds.length H
  yld : ∀ i H v H', i < ds.length → Same B H → J.yld i H v H' → H' = H ∧ ∃ d, ds[i]? = some d ∧ Rep K B v d
def JI (X : Cx) (tg iter : Expr) (s : A) (ds : List D) (s' : A) : Prop := ∀ as B H σ, Ok X.K as B H σ s → ∀ R : It → Hp → Prop, (∀ J B' H', Ext as B H as B' H' → Ok X.K as B' H' σ s' → ItD X.K B' J ds → R J H') → wI X tg iter σ H R

section
variable {X : Cx} {W : WX} {k : Nat} {e a b c tg iter : Expr} {es rest tgs : List Expr} {st : Stmt} {sts body orelse : List Stmt} {s s' s1 s2 s3 : A} {P : Po} {d d' da db dc : D} {r : Res} {ds : List D} {xs ys : List D} {pos p2 p apos pos' : Pos} {x : Str} {β β1 β2 : Bool} {op : CmpOp} {l : List Sl}
theorem jb_nil (h : P.nx s) : JB X W [] s P := fun as B H σ ok Dn f => wB_of pss_nil (f.nx as B H σ s (Ext.refl ..) ok h)
/-- the end, some slots forgotten -/
theorem jb_end (e : Les s.sl l) (h : P.nx ⟨l, s.cl⟩) : JB X W [] s P := fun as B H σ ok Dn f => wB_of pss_nil (f.nx as B H σ _ (Ext.refl ..) (ok.less e) h)
theorem jb_less (e : Les s.sl l) (h : JB X W sts ⟨l, s.cl⟩ P) : JB X W sts s P := fun as B H σ ok Dn f => h as B H σ (ok.less e) Dn f
theorem jb_cons (h : JS X W st s { P with nx := fun s' => JB X W sts s' P }) : JB X W (st :: sts) s P := fun as B H σ ok Dn f =>
  wB_of (pss_cons ps_w pss_w) (h as B H σ ok { Dn with nx := wB X sts Dn } ⟨fun as' B' H' σ' s' x o z => z as' B' H' σ' o Dn (f.on x), f.rt, f.bk, f.ct, f.ex⟩)
/-- .. what is between is told by a word -/
theorem jb_cut (M : A → Prop) (h : JS X W st s { P with nx := M }) (k : ∀ s', M s' → JB X W sts s' P) : JB X W (st :: sts) s P :=
  jb_cons fun as B H σ ok Dn f => h as B H σ ok Dn ⟨fun as' B' H' σ' s' x o z => f.nx as' B' H' σ' s' x o (k s' z), f.rt, f.bk, f.ct, f.ex⟩
theorem jb_one (h : JS X W st s P) : JB X W [st] s P := jb_cons fun as B H σ ok Dn f => h as B H σ ok Dn ⟨fun as' B' H' σ' s' x o z => f.nx as' B' H' σ' s' x o (jb_nil z), f.rt, f.bk, f.ct, f.ex⟩
theorem js_of {t : TS} (h : PS X st t) (k : ∀ as B H σ, Ok X.K as B H σ s → ∀ Dn : Ends, Fits X.K W as B H P Dn → t Dn σ H) : JS X W st s P := fun as B H σ ok Dn f => wS_of h (k as B H σ ok Dn f)
/-! ### small statements -/
theorem js_pass (h : P.nx s) : JS X W (.Pass pos) s P := js_of ps_pass fun as B H σ ok Dn f => f.nx as B H σ s (Ext.refl ..) ok h
theorem js_break (h : P.bk s) : JS X W (.Break pos) s P := js_of ps_break fun as B H σ ok Dn f => f.bk as B H σ s (Ext.refl ..) ok h
theorem js_cont (h : P.ct s) : JS X W (.Continue pos) s P := js_of ps_continue fun as B H σ ok Dn f => f.ct as B H σ s (Ext.refl ..) ok h
theorem js_doc {z : Str} {j : Nat} (h : P.nx s) : JS X W (.Expr (.Constant (.str z) j pos) pos') s P := js_of ps_doc fun as B H σ ok Dn f => f.nx as B H σ s (Ext.refl ..) ok h
/-- x = e, i x's place -/
theorem js_set (i : Nat) {cl : List Cl} (C : Cok X W k) (he : JE X W e s (.ok d) s1) (hP : P.nx ⟨l, cl⟩) (hl : s1.sl.set i (.d d) = l := by (first | (dsimp only [List.set, List.length_cons, List.length_nil, List.cons_append, List.nil_append, Nat.reduceAdd]; done) | (dsimp only [List.set, List.length_cons, List.length_nil, List.cons_append, List.nil_append, Nat.reduceAdd]; exact rfl) | exact rfl)) (hcl : s1.cl = cl := by (first | (dsimp only [List.set, List.length_cons, List.length_nil, List.cons_append, List.nil_append, Nat.reduceAdd]; done) | (dsimp only [List.set, List.length_cons, List.length_nil, List.cons_append, List.nil_append, Nat.reduceAdd]; exact rfl) | exact rfl)) (hi : X.N[i]? = some x := by rfl) (hx : Loc X.env.scope x := by first | exact .inl rfl | exact .inr rfl) (hn : i < s1.sl.length := by exact of_decide_eq_true rfl) (hs : swapsWith e (some (.Name x pos')) pos.line X.env = pure false := by rfl) (hf : X.fn x = true ∨ X.env.scope.names.lookup x = some .local := by first | exact .inl rfl | exact .inr rfl) :
    JS X W (.Assign [.Name x pos'] e pos) s P := js_of (ps_set C.nd hi hx pe_w hs hf) fun as B H σ ok Dn f => he as B H σ ok _ fun v B' H' x o r => by
  have o2 := o.store (i := i) (o := some v) (x := .d d) hn ⟨v, rfl, r⟩
  rw [hl] at o2
  rw [← hcl] at hP
  exact f.nx as B' H' _ _ x o2 hP
theorem js_setE (i : Nat) {ce : Addr} (C : Cok X W k) (he : JE X W e s (.er ce) s1) (hP : P.ex ce s1) (hi : X.N[i]? = some x := by rfl) (hx : Loc X.env.scope x := by first | exact .inl rfl | exact .inr rfl) (hs : swapsWith e (some (.Name x pos')) pos.line X.env = pure false := by rfl) (hf : X.fn x = true ∨ X.env.scope.names.lookup x = some .local := by first | exact .inl rfl | exact .inr rfl) :
    JS X W (.Assign [.Name x pos'] e pos) s P := js_of (ps_set C.nd hi hx pe_w hs hf) fun as B H σ ok Dn f => he as B H σ ok _ fun B' H' x o => f.ex as B' H' _ _ _ x o hP
/-- x = e, a new list, to be changed: a cell -/
theorem Ok.adopt {K : PySem.W.Frag} {as : List Addr} {B H : Hp} {σ : L2.St} {p : Addr} {vs : List V} {xs : List D} (h : Ok K as B H σ s) (hp : p ∉ as) (hB : B p = none) (hH : H p = some (.lst vs)) (hv : Reps K B vs xs) : Ok K (as ++ [p]) B H σ ⟨s.sl, s.cl ++ [.lst xs]⟩ := by
  have hl := h.cs.1
  have split : ∀ {j : Nat} {a : Addr} {d : Cl}, (as ++ [p])[j]? = some a → (s.cl ++ [Cl.lst xs])[j]? = some d → (as[j]? = some a ∧ s.cl[j]? = some d) ∨ (a = p ∧ d = .lst xs) := fun {j a d} h1 h2 => by
    by_cases hj : j < as.length
    · rw [List.getElem?_append_left hj] at h1
      rw [List.getElem?_append_left (by omega)] at h2
      exact .inl ⟨h1, h2⟩
    · rw [List.getElem?_append_right (by omega)] at h1
      rw [List.getElem?_append_right (by omega)] at h2
      rw [hl] at h1
      cases e : j - s.cl.length with
      | zero => rw [e] at h1 h2; simp at h1 h2; exact .inr ⟨h1.symm, h2.symm⟩
      | succ n => rw [e] at h1; simp at h1
  refine ⟨h.sm, ?_, fun a ha => ?_, fun j a d h1 h2 h3 => ?_, ⟨by simp [hl], fun j a d h1 h2 => ?_⟩, h.ln, fun i x hx => (h.sl i x hx).mono (fun _ _ e => e) ⟨[p], rfl⟩⟩
  · rw [List.nodup_append]
    refine ⟨h.nd, by simp, fun a ha b hb => ?_⟩
    rw [List.mem_singleton.mp hb]
    exact fun z => hp (by rw [← z]; exact ha)
  · rcases List.mem_append.mp ha with ha | ha
    · exact h.ht a ha
    · rw [List.mem_singleton.mp ha, hH]; exact fun z => nomatch z
  · rcases split h1 h2 with ⟨h1, h2⟩ | ⟨rfl, rfl⟩
    · exact h.nb j a d h1 h2 h3
    · exact hB
  · rcases split h1 h2 with ⟨h1, h2⟩ | ⟨rfl, rfl⟩
    · exact (h.cs.2 j a d h1 h2).mono (fun _ _ e => e) ⟨[p], rfl⟩ fun _ u e => e
    · exact ⟨vs, hH, hv⟩
theorem Ext.adopt {as : List Addr} {B H B' H' : Hp} {p : Addr} (x : Ext as B H as B' H') (hp : H p = none) : Ext as B H (as ++ [p]) B' H' :=
  ⟨x.b, x.k, x.n, ⟨[p], rfl, fun a ha => by rw [List.mem_singleton.mp ha]; exact hp⟩, x.t⟩
theorem js_new (i : Nat) (C : Cok X W k) {cl : List Cl} (he : JF X e s xs s1) (hP : P.nx ⟨l, cl⟩) (hl : s1.sl.set i (.c s1.cl.length) = l := by (first | (dsimp only [List.set, List.length_cons, List.length_nil, List.cons_append, List.nil_append, Nat.reduceAdd]; done) | (dsimp only [List.set, List.length_cons, List.length_nil, List.cons_append, List.nil_append, Nat.reduceAdd]; exact rfl) | exact rfl)) (hcl : s1.cl ++ [.lst xs] = cl := by (first | (dsimp only [List.set, List.length_cons, List.length_nil, List.cons_append, List.nil_append, Nat.reduceAdd]; done) | (dsimp only [List.set, List.length_cons, List.length_nil, List.cons_append, List.nil_append, Nat.reduceAdd]; exact rfl) | exact rfl)) (hi : X.N[i]? = some x := by rfl) (hx : Loc X.env.scope x := by first | exact .inl rfl | exact .inr rfl) (hn : i < s1.sl.length := by exact of_decide_eq_true rfl) (hs : swapsWith e (some (.Name x pos')) pos.line X.env = pure false := by rfl) (hf : X.fn x = true ∨ X.env.scope.names.lookup x = some .local := by first | exact .inl rfl | exact .inr rfl) :
    JS X W (.Assign [.Name x pos'] e pos) s P := js_of (ps_set C.nd hi hx pe_w hs hf) fun as B H σ ok Dn f => he as B H σ ok _ fun p vs B' H' x o hp hB hH hr => by
  have o1 := o.adopt (free_lt ok hp) hB hH hr
  have hl1 := o.cs.1
  have o2 := o1.store (i := i) (o := some (.ref p)) (x := .c s1.cl.length) hn ⟨p, by rw [← hl1, List.getElem?_append_right (Nat.le_refl _)]; simp, rfl⟩
  dsimp only at o2
  rw [hl] at o2
  rw [← hcl] at hP
  exact f.nx _ B' H' _ _ (x.adopt hp) o2 hP
/-- the cell of slot i becomes a value -/
theorem js_freeze (i j : Nat) {cl : List Cl} (h : JS X W st ⟨l, cl⟩ P) (hi : s.sl[i]? = some (.c j) := by rfl) (hc : s.cl[j]? = some (.lst xs) := by rfl) (hl : s.sl.set i (.d (.lst xs)) = l := by (first | (dsimp only [List.set, List.length_cons, List.length_nil, List.cons_append, List.nil_append, Nat.reduceAdd]; done) | (dsimp only [List.set, List.length_cons, List.length_nil, List.cons_append, List.nil_append, Nat.reduceAdd]; exact rfl) | exact rfl)) (hcl : s.cl.set j .dead = cl := by (first | (dsimp only [List.set, List.length_cons, List.length_nil, List.cons_append, List.nil_append, Nat.reduceAdd]; done) | (dsimp only [List.set, List.length_cons, List.length_nil, List.cons_append, List.nil_append, Nat.reduceAdd]; exact rfl) | exact rfl)) : JS X W st s P := fun as B H σ ok Dn f => by
  obtain ⟨a, e1, ha⟩ := cell_of ok hi
  obtain ⟨vs, hH, hv⟩ := ok.cs.2 j a _ ha hc
  obtain ⟨o1, x1⟩ := ok.freeze ha hc True.intro hH
  have o2 := o1.tell (i := i) (x := .d (.lst xs)) ⟨.ref a, by rw [e1]; rfl, .lst upd_same (hv.mono x1.b)⟩
  dsimp only at o2
  rw [hl, hcl] at o2
  exact h as _ H σ o2 Dn (f.on x1)
theorem jb_freeze (i j : Nat) {cl : List Cl} (h : JB X W sts ⟨l, cl⟩ P) (hi : s.sl[i]? = some (.c j) := by rfl) (hc : s.cl[j]? = some (.lst xs) := by rfl) (hl : s.sl.set i (.d (.lst xs)) = l := by (first | (dsimp only [List.set, List.length_cons, List.length_nil, List.cons_append, List.nil_append, Nat.reduceAdd]; done) | (dsimp only [List.set, List.length_cons, List.length_nil, List.cons_append, List.nil_append, Nat.reduceAdd]; exact rfl) | exact rfl)) (hcl : s.cl.set j .dead = cl := by (first | (dsimp only [List.set, List.length_cons, List.length_nil, List.cons_append, List.nil_append, Nat.reduceAdd]; done) | (dsimp only [List.set, List.length_cons, List.length_nil, List.cons_append, List.nil_append, Nat.reduceAdd]; exact rfl) | exact rfl)) : JB X W sts s P := fun as B H σ ok Dn f => by
  obtain ⟨a, e1, ha⟩ := cell_of ok hi
  obtain ⟨vs, hH, hv⟩ := ok.cs.2 j a _ ha hc
  obtain ⟨o1, x1⟩ := ok.freeze ha hc True.intro hH
  have o2 := o1.tell (i := i) (x := .d (.lst xs)) ⟨.ref a, by rw [e1]; rfl, .lst upd_same (hv.mono x1.b)⟩
  dsimp only at o2
  rw [hl, hcl] at o2
  exact h as _ H σ o2 Dn (f.on x1)
theorem js_expr (he : JE X W e s (.ok d) s1) (hP : P.nx s1) (hs : swapsWith e none pos.line X.env = pure false := by rfl) : JS X W (.Expr e pos) s P := js_of (ps_expr pe_w hs) fun as B H σ ok Dn f => he as B H σ ok _ fun v B' H' x o r => f.nx as B' H' σ s1 x o hP
theorem js_exprE {ce : Addr} (he : JE X W e s (.er ce) s1) (hP : P.ex ce s1) (hs : swapsWith e none pos.line X.env = pure false := by rfl) : JS X W (.Expr e pos) s P := js_of (ps_expr pe_w hs) fun as B H σ ok Dn f => he as B H σ ok _ fun B' H' x o => f.ex as B' H' _ _ _ x o hP
theorem js_ret (he : JE X W e s (.ok d) s1) (hP : P.rt d s1.cl) : JS X W (.Return (some e) pos) s P := js_of (ps_ret pe_w) fun as B H σ ok Dn f => he as B H σ ok _ fun v B' H' x o r => f.rt as B' H' σ s1 v d x o r hP
theorem js_retE {ce : Addr} (he : JE X W e s (.er ce) s1) (hP : P.ex ce s1) : JS X W (.Return (some e) pos) s P := js_of (ps_ret pe_w) fun as B H σ ok Dn f => he as B H σ ok _ fun B' H' x o => f.ex as B' H' _ _ _ x o hP
theorem js_if (ht : JT X c s β) (h1 : β = true → JB X W body s P) (h2 : β = false → JB X W orelse s P) : JS X W (.If c body orelse pos) s P := js_of (ps_if pt_w pss_w pss_w) fun as B H σ ok Dn f => ht as B H σ ok _ fun B1 H1 e1 o1 => by
  cases β with
  | true => exact iteT (h1 rfl as B1 H1 σ o1 Dn (f.on e1))
  | false => exact iteF (h2 rfl as B1 H1 σ o1 Dn (f.on e1))
/-- l.append(e), l a cell -/
theorem js_app (i j : Nat) {cl : List Cl} (he : JE X WN e s (.ok d) s1) (hlen : xs.length < sizeLine) (hP : P.nx ⟨l, cl⟩) (hsl : s1.sl = l := by (first | (dsimp only [List.set, List.length_cons, List.length_nil, List.cons_append, List.nil_append, Nat.reduceAdd]; done) | (dsimp only [List.set, List.length_cons, List.length_nil, List.cons_append, List.nil_append, Nat.reduceAdd]; exact rfl) | exact rfl)) (hi : s.sl[i]? = some (.c j) := by rfl) (hc0 : ∃ zs, s.cl[j]? = some (.lst zs) := by exact ⟨_, rfl⟩) (hc : s1.cl[j]? = some (.lst xs) := by rfl) (hcl : s1.cl.set j (.lst (xs ++ [d])) = cl := by (first | (dsimp only [List.set, List.length_cons, List.length_nil, List.cons_append, List.nil_append, Nat.reduceAdd]; done) | (dsimp only [List.set, List.length_cons, List.length_nil, List.cons_append, List.nil_append, Nat.reduceAdd]; exact rfl) | exact rfl)) (hN : X.N[i]? = some x := by rfl)
    (hv : Vis X.env.scope x := by first | exact Or.inl rfl | exact Or.inr (Or.inl rfl) | exact Or.inr (Or.inr rfl)) (hd1 : (x == ("__debug__" : Str)) = false := by decide) (hd2 : (x == ("__classdict__" : Str)) = false := by decide)
    (hbase : attributeBase (.Name x p2) "append" X.env (eval (.Name x p2) X.env) = eval (.Name x p2) X.env := by rfl)
    (hfew : ((backTo p (starEach (e :: []) X.env)).all (fun x => !x.1) && (backToKw p (keywordEach [] X.env)).all (fun x => x.1.isSome)
      && decide ((e :: []).length + ([] : List Keyword).length + (if ([] : List Keyword).isEmpty then 0 else 1) < 30)) = true := by rfl)
    (hline : (apos.endLine == p.line) = true := by rfl) (hs : starEach (e :: []) X.env = (false, eval e X.env) :: starEach [] X.env := by rfl) (hplain : (backTo p (starEach [] X.env)).any (·.1) = false := by rfl)
    (hsw : swapsWith (.Call (.Attribute (.Name x p2) "append" apos) [e] [] p) none pos.line X.env = pure false := by rfl) :
    JS X W (.Expr (.Call (.Attribute (.Name x p2) "append" apos) [e] [] p) pos) s P :=
  js_of (ps_expr (pe_bm PySem.F.plainAttrs_list PySem.F.slot_list_append PySem.F.type_list_append mt_append (pe_var hN hv hd1 hd2) (pa_cons pe_w pa_nil hs) hbase hfew hline hs hplain) hsw) fun as B H σ ok Dn f => by
    obtain ⟨a, e1, ha⟩ := cell_of ok hi
    obtain ⟨zs, hz⟩ := hc0
    obtain ⟨us, hu, _⟩ := ok.cs.2 j a _ ha hz
    refine ⟨.ref a, e1, .inl ⟨rfl, _, .inl (.inl hu)⟩, Ok.one he ok fun v B1 H1 x1 o1 r1 => ?_⟩
    obtain ⟨vs, hH, hv⟩ := o1.cs.2 j a _ ha hc
    obtain ⟨o2, x2⟩ := o1.wr (o := .lst (vs ++ [v])) (c' := .lst (xs ++ [d])) ha hc True.intro ⟨_, upd_same, hv.append (.cons r1 .nil)⟩
    rw [hcl] at o2
    rw [← hsl] at hP
    exact ⟨a, vs, v, rfl, rfl, hH, by rw [hv.length]; exact hlen, f.nx as _ _ σ _ (x1.trans x2) o2 hP⟩
/-- l[e2] = e, l a cell -/
theorem js_setix (i j : Nat) {cl : List Cl} {n : Int} {m : Nat} (he : JE X WN e s (.ok d) s1) (hb : JE X WN b s1 (.ok (.int n)) s2) (hix : ixN xs.length n = some m) (hP : P.nx ⟨l, cl⟩) (hsl : s2.sl = l := by (first | (dsimp only [List.set, List.length_cons, List.length_nil, List.cons_append, List.nil_append, Nat.reduceAdd]; done) | (dsimp only [List.set, List.length_cons, List.length_nil, List.cons_append, List.nil_append, Nat.reduceAdd]; exact rfl) | exact rfl)) (hi : s1.sl[i]? = some (.c j) := by rfl) (hc : s2.cl[j]? = some (.lst xs) := by rfl) (hcl : s2.cl.set j (.lst (xs.set m d)) = cl := by (first | (dsimp only [List.set, List.length_cons, List.length_nil, List.cons_append, List.nil_append, Nat.reduceAdd]; done) | (dsimp only [List.set, List.length_cons, List.length_nil, List.cons_append, List.nil_append, Nat.reduceAdd]; exact rfl) | exact rfl)) (hN : X.N[i]? = some x := by rfl)
    (hv : Vis X.env.scope x := by first | exact Or.inl rfl | exact Or.inr (Or.inl rfl) | exact Or.inr (Or.inr rfl)) (hd1 : (x == ("__debug__" : Str)) = false := by decide) (hd2 : (x == ("__classdict__" : Str)) = false := by decide)
    (ha : ∀ v, assign (.Subscript (.Name x p2) b p) X.env v = (do
      let ov ← holding [v] (eval (.Name x p2) X.env)
      let iv ← holding [v, ov] (eval b X.env)
      standAt p; holding [v, ov, iv] (setItem ov iv v); release [v, ov, iv] []) := by intro _; rfl)
    (hs : swapsWithSole [.Subscript (.Name x p2) b p] e pos.line X.env = pure false := by rfl) (hw : swappedStores [.Subscript (.Name x p2) b p] e X.env = pure none := by rfl)
    (h1 : (assignEach [.Subscript (.Name x p2) b p] X.env).map (·.2) = [assign (.Subscript (.Name x p2) b p) X.env] := by rfl) :
    JS X W (.Assign [.Subscript (.Name x p2) b p] e pos) s P :=
  js_of (ps_asg pe_w (pg_sub (pe_var hN hv hd1 hd2) pe_w set_list ha) hs hw h1) fun as B H σ ok Dn f => Ok.one he ok fun v B1 H1 x1 o1 r1 => by
    obtain ⟨a, e1, ha⟩ := cell_of o1 hi
    refine ⟨.ref a, e1, Ok.one hb o1 fun y B2 H2 x2 o2 r2 => ?_⟩
    cases r2
    obtain ⟨vs, hH, hv⟩ := o2.cs.2 j a _ ha hc
    obtain ⟨o3, x3⟩ := o2.wr (o := .lst (vs.set m v)) (c' := .lst (xs.set m d)) ha hc True.intro ⟨_, upd_same, hv.set (r1.mono x2.b) m⟩
    rw [hcl] at o3
    rw [← hsl] at hP
    exact ⟨a, vs, n, m, rfl, rfl, hH, by rw [hv.length]; exact hix, f.nx as _ _ σ _ ((x1.trans x2).trans x3) o3 hP⟩

/-! ### targets -/
theorem jg_name (i : Nat) {R : A → Prop} {cl : List Cl} (hnd : X.N.Nodup) (hR : R ⟨l, cl⟩) (hl : s.sl.set i (.d d) = l := by (first | (dsimp only [List.set, List.length_cons, List.length_nil, List.cons_append, List.nil_append, Nat.reduceAdd]; done) | (dsimp only [List.set, List.length_cons, List.length_nil, List.cons_append, List.nil_append, Nat.reduceAdd]; exact rfl) | exact rfl)) (hcl : s.cl = cl := by (first | (dsimp only [List.set, List.length_cons, List.length_nil, List.cons_append, List.nil_append, Nat.reduceAdd]; done) | (dsimp only [List.set, List.length_cons, List.length_nil, List.cons_append, List.nil_append, Nat.reduceAdd]; exact rfl) | exact rfl)) (hi : X.N[i]? = some x := by rfl) (hx : Loc X.env.scope x := by first | exact .inl rfl | exact .inr rfl) (hn : i < s.sl.length := by exact of_decide_eq_true rfl) (hf : X.fn x = true ∨ X.env.scope.names.lookup x = some .local := by first | exact .inl rfl | exact .inr rfl) :
    JG X (.Name x pos) d s R := fun as B H σ v ok r Q q => wG_of (pg_name hnd hi hx hf) (by
  have o2 := ok.store (i := i) (o := some v) (x := .d d) hn ⟨v, rfl, r⟩
  rw [hl] at o2
  rw [← hcl] at hR
  exact q _ _ o2 hR)
theorem jgs_nil {R : A → Prop} (h : R s) : JGs X [] [] s R := fun as B H σ vs ok r Q q => by
  cases r
  exact wGs_of pgs_nil ⟨rfl, q σ s ok h⟩
theorem jgs_cons {R : A → Prop} (h : JG X e d s fun s' => JGs X tgs ds s' R) (hs : (assignEach (e :: tgs) X.env).map (·.2) = assign e X.env :: (assignEach tgs X.env).map (·.2) := by rfl) : JGs X (e :: tgs) (d :: ds) s R := fun as B H σ vs ok r Q q => by
  cases r with
  | @cons v vr _ _ r1 r2 => exact wGs_of (pgs_cons pg_w pgs_w hs) ⟨v, vr, rfl, h as B H σ v ok r1 _ fun σ' s' o z => z as B H σ' vr o r2 Q q⟩
theorem jg_tup {R : A → Prop} {j : Nat} {n : Nat} (C : X.calm = true) (h : JGs X es ds s R) (hl : ds.length = n) (hn : (assignEach es X.env).length = n := by rfl) (hst : (assignEach es X.env).findIdx? (·.1) = none := by rfl) : JG X (.Tuple es j pos) (.tup ds) s R :=
  fun as B H σ v ok r Q q => wG_of (pg_tup C pgs_w hn hst) (by
    cases r with
    | tup ha hv => exact ⟨_, _, rfl, same_t ok.sm ha, hv.length.trans hl, h as B H σ _ ok hv Q q⟩)
/-- target = e -/
theorem js_asg (he : JE X W e s (.ok d) s1) (hg : JG X tg d s1 P.nx) (hs : swapsWithSole [tg] e pos.line X.env = pure false := by rfl) (hw : swappedStores [tg] e X.env = pure none := by rfl)
    (h1 : (assignEach [tg] X.env).map (·.2) = [assign tg X.env] := by rfl) : JS X W (.Assign [tg] e pos) s P :=
  js_of (ps_asg pe_w pg_w hs hw h1) fun as B H σ ok Dn f => Ok.one he ok fun v B1 H1 x1 o1 r1 => hg as B1 H1 σ v o1 r1 _ fun σ' s' o z => f.nx as B1 H1 σ' s' x1 o z

/-! ### loops -/
theorem ji_list (h : JE X WN e s (.ok (.lst ds)) s1) : JI X tg e s ds s1 := fun as B H σ ok R q => wI_of (pi_list pe_w) (Ok.one h ok fun v B1 H1 x1 o1 r1 => by
  cases r1 with
  | @lst a vs _ ha hv =>
    refine ⟨a, rfl, ⟨vs, .inl (.inl (o1.sm _ _ ha))⟩, q _ B1 H1 x1 o1 ⟨fun i H' hi sm => ?_, fun H' sm => ?_, fun i H' w H'' hi sm y => ?_⟩⟩
    · have hl := hv.length
      exact ⟨vs, vs[i]'(by omega), .inl (.inl (sm _ _ ha)), List.getElem?_eq_getElem _⟩
    · exact ⟨vs, .inl (.inl (sm _ _ ha)), Nat.le_of_eq hv.length⟩
    · obtain ⟨e1, e2⟩ := y
      exact ⟨e1, hv.getV (e2 vs (.inl (.inl (sm _ _ ha))))⟩)
theorem ji_tup (h : JE X WN e s (.ok (.tup ds)) s1) : JI X tg e s ds s1 := fun as B H σ ok R q => wI_of (pi_tup pe_w) (Ok.one h ok fun v B1 H1 x1 o1 r1 => by
  cases r1 with
  | @tup a vs _ ha hv =>
    refine ⟨a, rfl, ⟨vs, same_t o1.sm ha⟩, q _ B1 H1 x1 o1 ⟨fun i H' hi sm => ?_, fun H' sm => ?_, fun i H' w H'' hi sm y => ?_⟩⟩
    · have hl := hv.length
      exact ⟨vs, vs[i]'(by omega), same_t sm ha, List.getElem?_eq_getElem _⟩
    · exact ⟨vs, same_t sm ha, Nat.le_of_eq hv.length⟩
    · obtain ⟨e1, e2⟩ := y
      exact ⟨e1, hv.getV (e2 vs (same_t sm ha))⟩)
def rngD (lo : Int) (n : Nat) : List D := (List.range n).map fun i => .int (lo + (i : Nat))
theorem rngD_len {lo : Int} {n : Nat} : (rngD lo n).length = n := by unfold rngD; rw [List.length_map, List.length_range]
theorem itd_range {K : PySem.W.Frag} {B : Hp} {lo : Int} {n : Nat} : ItD K B (Itr lo n) (rngD lo n) :=
  ⟨fun i H hi _ => by rw [rngD_len] at hi; exact hi, fun H _ => by rw [rngD_len]; exact Nat.le_refl _, fun i H v H' hi _ y => by
    obtain ⟨e1, e2⟩ := y
    rw [rngD_len] at hi
    subst e2
    exact ⟨e1, .int (lo + i), by unfold rngD; rw [List.getElem?_map, List.getElem?_range hi]; rfl, .int _⟩⟩
theorem itd_cast {K : PySem.W.Frag} {B : Hp} {lo : Int} {n : Nat} {f : Nat → D} (h : ∀ i, f i = .int (lo + (i : Nat))) : ItD K B (Itr lo n) ((List.range n).map f) := by
  have e : (List.range n).map f = rngD lo n := by
    unfold rngD
    exact List.map_congr_left fun i _ => h i
  rw [e]
  exact itd_range
theorem ji_range1 {n : Nat} (hm : X.mg "range" = none) (h : JE X WN a s (.ok (.int (n : Nat))) s1) (hn : n < 2 ^ 62) (hg : Gl X "range" := by rfl) (h1 : starEach [a] X.env = (false, eval a X.env) :: starEach [] X.env := by rfl) (hs : starEach [a] X.env = [(false, eval a X.env)] := by rfl) : JI X tg (.Call (.Name "range" p) [a] [] pos) s ((List.range n).map fun i : Nat => D.int (i : Nat)) s1 :=
  fun as B H σ ok R q => wI_of (pi_range1 hg hm (pa_cons pe_w pa_nil h1) hs) (Ok.one h ok fun v B1 H1 x1 o1 r1 => by
    cases r1
    exact ⟨n, rfl, by omega, by omega, q _ B1 H1 x1 o1 (itd_cast fun i => by rw [Int.zero_add])⟩)
theorem ji_range2 {lo hi : Nat} (hm : X.mg "range" = none) (h : JE X WN a s (.ok (.int (lo : Nat))) s1) (h' : JE X WN b s1 (.ok (.int (hi : Nat))) s2) (hn : lo < 2 ^ 62 ∧ hi < 2 ^ 62) (hg : Gl X "range" := by rfl) (h1 : starEach (b :: []) X.env = (false, eval b X.env) :: starEach [] X.env := by rfl) (h2 : starEach (a :: [b]) X.env = (false, eval a X.env) :: starEach [b] X.env := by rfl)
    (hs : starEach [a, b] X.env = [(false, eval a X.env), (false, eval b X.env)] := by rfl) (hs2 : starEach [b] X.env = [(false, eval b X.env)] := by rfl) : JI X tg (.Call (.Name "range" p) [a, b] [] pos) s ((List.range (hi - lo)).map fun i : Nat => D.int ((lo + i : Nat) : Int)) s2 :=
  fun as B H σ ok R q => wI_of (pi_range2 hg hm (pa_cons pe_w (pa_cons pe_w pa_nil h1) h2) hs hs2) (Ok.two h h' ok fun x y B2 H2 x2 o2 rx ry => by
    cases rx; cases ry
    have e : ((hi : Int) - (lo : Int)).toNat = hi - lo := by omega
    exact ⟨lo, hi, rfl, by omega, q _ B2 H2 x2 o2 (by rw [e]; exact itd_cast fun i => by rw [Int.natCast_add])⟩)
/-- for: I by the turn and the state -/
theorem js_for (I : Nat → A → Prop) (C : Cok X W k) (hi : JI X tg iter s ds s1) (h0 : I 0 s1) (hs : ∀ i d s', ds[i]? = some d → I i s' → JG X tg d s' fun s2 => JB X W body s2 { P with nx := I (i + 1), ct := I (i + 1), bk := P.nx }) (hd : ∀ s', I ds.length s' → P.nx s')
    (hf : ∀ x, foldedSetIterable iter X.env x = pure x := by intro _; rfl) : JS X W (.For tg iter body [] pos) s P :=
  js_of (ps_for C.hp C.calm pi_w pg_w pss_w hf) fun as B H σ ok Dn f => hi as B H σ ok _ fun J B1 H1 x1 o1 it => by
    refine ⟨fun i m σ' H' => m = ds.length - i ∧ i ≤ ds.length ∧ ∃ as' B' s', Ext as B1 H1 as' B' H' ∧ Ok X.K as' B' H' σ' s' ∧ I i s', ⟨ds.length, by simp, Nat.zero_le _, as, B1, s1, Ext.refl .., o1, h0⟩, ?_⟩
    rintro i m σ' H' ⟨rfl, hle, as', B', s', x2, o2, hI⟩
    have sm : Same B1 H' := x2.b.trans o2.sm
    by_cases hlt : i < ds.length
    · refine .inr ⟨it.go i H' hlt sm, fun σ2 H2 => ∃ as2 B2 s2, Ext as' B' H' as2 B2 H2 ∧ Ok X.K as2 B2 H2 σ2 s2 ∧ I (i + 1) s2, fun σ2 H2 ⟨as2, B2, s2, x3, o3, h3⟩ => ⟨ds.length - (i + 1), by omega, rfl, hlt, as2, B2, s2, x2.trans x3, o3, h3⟩, fun v H2 y => ?_⟩
      obtain ⟨rfl, d, hd', r⟩ := it.yld i H' v H2 hlt sm y
      refine hs i d s' hd' hI as' B' H2 σ' v o2 (r.mono x2.b) _ fun σ3 s3 o3 h3 => ?_
      exact h3 as' B' H2 σ3 o3 _ ⟨fun as4 B4 H4 σ4 s4 x4 o4 z => ⟨as4, B4, s4, x4, o4, z⟩, fun as4 B4 H4 σ4 s4 v d x4 => f.rt as4 B4 H4 σ4 s4 v d ((x1.trans x2).trans x4), fun as4 B4 H4 σ4 s4 x4 => f.nx as4 B4 H4 σ4 s4 ((x1.trans x2).trans x4),
        fun as4 B4 H4 σ4 s4 x4 o4 z => ⟨as4, B4, s4, x4, o4, z⟩, fun as4 B4 H4 σ4 s4 c x4 => f.ex as4 B4 H4 σ4 s4 c ((x1.trans x2).trans x4)⟩
    · have e : i = ds.length := by omega
      subst e
      exact .inl ⟨it.stop H' sm, f.nx as' B' H' σ' s' (x1.trans x2) o2 (hd s' hI)⟩
/-- while: I by a measure and the state -/
theorem js_while (I : Nat → A → Prop) (C : Cok X W k) {m0 : Nat} (h0 : I m0 s) (hs : ∀ m s', I m s' → ∃ β, JT X c s' β ∧ (β = true → JB X W body s' { P with nx := fun s2 => ∃ m', m' < m ∧ I m' s2, ct := fun s2 => ∃ m', m' < m ∧ I m' s2, bk := P.nx }) ∧ (β = false → P.nx s')) :
    JS X W (.While c body [] pos) s P :=
  js_of (ps_while C.hp pt_w pss_w) fun as B H σ ok Dn f => by
    refine ⟨fun m σ' H' => ∃ as' B' s', Ext as B H as' B' H' ∧ Ok X.K as' B' H' σ' s' ∧ I m s', ⟨m0, as, B, s, Ext.refl .., ok, h0⟩, ?_⟩
    rintro m σ' H' ⟨as', B', s', x1, o1, hI⟩
    obtain ⟨β, ht, h1, h2⟩ := hs m s' hI
    refine ht as' B' H' σ' o1 _ fun B2 H2 x2 o2 => ?_
    cases β with
    | true =>
      refine iteT ⟨fun σ3 H3 => ∃ m', m' < m ∧ ∃ as3 B3 s3, Ext as B H as3 B3 H3 ∧ Ok X.K as3 B3 H3 σ3 s3 ∧ I m' s3, fun σ3 H3 z => z, ?_⟩
      exact h1 rfl as' B2 H2 σ' o2 _ ⟨fun as4 B4 H4 σ4 s4 x4 o4 ⟨m', hm, z⟩ => ⟨m', hm, as4, B4, s4, (x1.trans x2).trans x4, o4, z⟩, fun as4 B4 H4 σ4 s4 v d x4 => f.rt as4 B4 H4 σ4 s4 v d ((x1.trans x2).trans x4), fun as4 B4 H4 σ4 s4 x4 => f.nx as4 B4 H4 σ4 s4 ((x1.trans x2).trans x4),
        fun as4 B4 H4 σ4 s4 x4 o4 ⟨m', hm, z⟩ => ⟨m', hm, as4, B4, s4, (x1.trans x2).trans x4, o4, z⟩, fun as4 B4 H4 σ4 s4 c x4 => f.ex as4 B4 H4 σ4 s4 c ((x1.trans x2).trans x4)⟩
    | false => exact iteF (f.nx as' B2 H2 σ' s' (x1.trans x2) o2 (h2 rfl))
end
end DL
set_option Elab.async false
set_option linter.all false
set_option maxRecDepth 100000
set_option maxHeartbeats 4000000
set_option autoImplicit true
/-! DLf: comprehensions, defs and their calls, raise -/
namespace DL
open PySem PySem.Spec PyProof.Rows L2

/-! ### comprehensions -/
section
variable {K : PySem.W.Frag} {as : List Addr} {B B' B0 H H0 H' : Hp} {σ : L2.St} {s : A} {p : Addr} {o : HO}
theorem Ok.poke (h : Ok K as B H σ s) (hp : p ∉ as) (hB : B p = none) : Ok K as B (upd H p o) σ s where
  sm := fun a u e => by rw [upd_ne (ne_of_none e hB)]; exact h.sm _ _ e
  nd := h.nd
  ht := fun a ha => by rw [upd_ne (fun z => hp (by rw [← z]; exact ha))]; exact h.ht a ha
  nb := h.nb
  cs := ⟨h.cs.1, fun j a c h1 h2 => (h.cs.2 j a c h1 h2).mono (fun _ _ e => e) ⟨[], by simp⟩ fun _ u e => by rw [upd_ne (fun z => hp (by rw [← z]; exact List.mem_of_getElem? h1))]; exact e⟩
  ln := h.ln
  sl := h.sl
theorem Ext.poke (x : Ext as B0 H0 as B H) (hp : H0 p = none) : Ext as B0 H0 as B (upd H p o) :=
  ⟨x.b, fun a u ha e => by rw [upd_ne (ne_of_none e hp)]; exact x.k a u ha e, x.n, ⟨[], by simp, fun _ z => nomatch z⟩, fun a ha => by
    by_cases e : a = p
    · rw [e] at ha; exact absurd hp ha
    · rw [upd_ne e]; exact x.t a ha⟩
end
def wipeL (sl : List Sl) : List Nat → List Sl
  | [] => sl
  | v :: vs => (wipeL sl vs).set v .u
theorem wipeL_length (sl : List Sl) : ∀ vs, (wipeL sl vs).length = sl.length
  | [] => rfl
  | v :: vs => by rw [wipeL, List.length_set, wipeL_length sl vs]
theorem Ok.wiped {K : PySem.W.Frag} {as : List Addr} {B H : Hp} {σ : L2.St} {s : A} (h : Ok K as B H σ s) : ∀ vs : List Nat, (∀ v ∈ vs, v < s.sl.length) → Ok K as B H (wipe σ vs) ⟨wipeL s.sl vs, s.cl⟩
  | [], _ => h
  | v :: vs, hv => by
    have z := Ok.wiped h vs fun w hw => hv w (List.mem_cons_of_mem _ hw)
    exact z.store (i := v) (o := none) (x := .u) (by rw [wipeL_length]; exact hv v List.mem_cons_self) True.intro
/-- a comprehension's target: what it does to the slots -/
structure Tgt (K : PySem.W.Frag) (g : TG) (vs : List Nat) (n : Nat) (upd : D → List Sl → List Sl → Prop) : Prop where
  lt : ∀ v ∈ vs, v < n
  go : ∀ {as B H σ s d v sl'}, Ok K as B H (wipe σ vs) s → s.sl.length = n → Rep K B v d → upd d s.sl sl' → ∀ Q : L2.St → Hp → Prop, (∀ σ', Ok K as B H σ' ⟨sl', s.cl⟩ → wipe σ' vs = wipe σ vs → Q σ' H) → g v (wipe σ vs) H Q
def updN (i : Nat) : D → List Sl → List Sl → Prop := fun d l m => l.set i (.d d) = m
def updP (i j : Nat) : D → List Sl → List Sl → Prop := fun d l m => ∃ d1 d2, d = .tup [d1, d2] ∧ (l.set i (.d d1)).set j (.d d2) = m
theorem tgt_name {K : PySem.W.Frag} {i n : Nat} (hi : i < n) : Tgt K (gName i) [i] n (updN i) where
  lt := fun v hv => by rw [List.mem_singleton.mp hv]; exact hi
  go := fun {as B H σ s d v sl'} ok hl r e Q q => by
    have o2 := ok.store (i := i) (o := some v) (x := .d d) (by omega) ⟨v, rfl, r⟩
    have e' : s.sl.set i (.d d) = sl' := e
    rw [e'] at o2
    refine q _ o2 ?_
    show ((σ.set i none).set i (some v)).set i none = σ.set i none
    rw [List.set_set, List.set_set]
theorem tgt_pair {K : PySem.W.Frag} {i j n : Nat} (hi : i < n) (hj : j < n) (hij : i ≠ j) : Tgt K (gTup K 2 (gCons (gName i) (gCons (gName j) gNil))) [i, j] n (updP i j) where
  lt := fun v hv => by
    rcases List.mem_cons.mp hv with e | hv
    · rw [e]; exact hi
    · rw [List.mem_singleton.mp hv]; exact hj
  go := fun {as B H σ s d v sl'} ok hl r e Q q => by
    obtain ⟨d1, d2, rfl, e'⟩ := e
    cases r with
    | tup ha hv =>
      cases hv with
      | @cons v1 _ _ _ r1 hv =>
        cases hv with
        | @cons v2 _ _ _ r2 hv =>
          cases hv
          refine ⟨_, _, rfl, same_t ok.sm ha, rfl, v1, [v2], rfl, v2, [], rfl, rfl, ?_⟩
          have o2 := ok.store (i := i) (o := some v1) (x := .d d1) (by omega) ⟨v1, rfl, r1⟩
          have o3 := o2.store (i := j) (o := some v2) (x := .d d2) (by rw [List.length_set]; omega) ⟨v2, rfl, r2⟩
          dsimp only at o3
          rw [e'] at o3
          refine q _ o3 ?_
          show (((((σ.set j none).set i none).set i (some v1)).set j (some v2)).set j none).set i none = (σ.set j none).set i none
          rw [List.set_set, List.set_set, List.set_comm _ _ (Ne.symm hij), List.set_comm _ _ (Ne.symm hij), List.set_comm _ _ hij, List.set_set]
          rw [List.set_comm _ _ (Ne.symm hij), List.set_set]
          exact List.set_comm _ _ hij
section
variable {X : Cx} {W : WX} {k : Nat} {e a b c tg iter elt : Expr} {es rest tgs ifs : List Expr} {st : Stmt} {sts body orelse : List Stmt} {s s' s1 s2 s3 : A} {P : Po} {d d' da db dc : D} {r : Res} {ds : List D} {xs ys : List D} {pos p2 p apos pos' : Pos} {x : Str} {β β1 β2 : Bool} {op : CmpOp} {l : List Sl} {scope : Scope} {own : List (Str × Nat)}
/-- what holds in every block of the comprehension -/
def Blk (X : Cx) (scope : Scope) (p : Cx → Prop) : Prop := ∀ (s : Shared) (H : Hp) (C : Addr) (cl : List (Str × Addr)) (fp : List Addr), p (X.blk s H scope (compEnvC scope cl C X.env) fp)
def tBE (X : Cx) (scope : Scope) (e : Expr) : TE := fun σ H Q => Blk X scope fun Y => wE Y e σ H Q
def tBT (X : Cx) (scope : Scope) (e : Expr) : TT := fun σ H Q => Blk X scope fun Y => wT Y e σ H Q
/-- the test of a comprehension -/
def JTs (X : Cx) (scope : Scope) (ifs : List Expr) (s : A) (β : Bool) : Prop := match ifs with
  | [] => β = true
  | [c] => Blk X scope fun Y => JT Y c s β
  | _ => False
def tBTs (X : Cx) (scope : Scope) (ifs : List Expr) : TT := match ifs with
  | [] => tYes
  | [c] => tBT X scope c
  | _ => fun _ _ _ => False
theorem pts_w (h : ifs.length ≤ 1) : Blk X scope fun Y => PTs Y ifs (tBTs X scope ifs) := fun s H C cl fp => by
  match ifs, h with
  | [], _ => exact pts_nil
  | [c], _ => exact pts_one ⟨fun pins s' σ H' Q I h => h s H C cl fp pins s' I⟩
theorem jts_run (h : JTs X scope ifs s β) {as : List Addr} {B H : Hp} {σ : L2.St} (ok : Ok X.K as B H σ s) {Q : Bool → Hp → Prop} (q : ∀ B' H', Ext as B H as B' H' → Ok X.K as B' H' σ s → Q β H') : tBTs X scope ifs σ H Q := by
  match ifs, h with
  | [], h =>
    have h' : β = true := h
    subst h'
    exact q B H (Ext.refl ..) ok
  | [c], h => exact fun s0 H0 C cl fp => h s0 H0 C cl fp as B H σ ok Q q
  | _ :: _ :: _, h => exact h.elim
/-- a comprehension comes to xs -/
structure Lc (X : Cx) (tg iter elt : Expr) (ifs : List Expr) (scope : Scope) (own : List (Str × Nat)) (g : TG) (s : A) (xs : List D) (s' : A) : Prop where
  blk : BlkOk X.N X.env.scope scope own
  h1 : ifs.length ≤ 1
  hg : Blk X scope fun Y => PG Y tg g
  run : ∀ as B H σ, Ok X.K as B H σ s → ∀ Q : VK, (∀ p vs B' H', Ext as B H as B' H' → Ok X.K as B' H' σ s' → H p = none → B' p = none → H' p = some (.lst vs) → Reps X.K B' vs xs → Q (.ref p) H') →
    tLc (wI X tg iter) g (tBTs X scope ifs) (tBE X scope elt) (own.map (·.2)) σ H Q
theorem lc_mk {g : TG} {up : D → List Sl → List Sl → Prop} (hi : JI X tg iter s ds s1) (T : Tgt X.K g (own.map (·.2)) s1.sl.length up) (hblk : BlkOk X.N X.env.scope scope own) (hifs : ifs.length ≤ 1) (hg : Blk X scope fun Y => PG Y tg g)
    (acc : Nat → List D) (cs : Nat → List Cl) (h0 : acc 0 = []) (c0 : cs 0 = s1.cl) (hlen : ∀ i, i < ds.length → (acc i).length < sizeLine)
    (hs : ∀ i d, ds[i]? = some d → ∃ sl' β, up d (wipeL s1.sl (own.map (·.2))) sl' ∧ JTs X scope ifs ⟨sl', cs i⟩ β ∧ (β = true → ∃ y, (Blk X scope fun Y => JE Y WN elt ⟨sl', cs i⟩ (.ok y) ⟨sl', cs (i + 1)⟩) ∧ acc (i + 1) = acc i ++ [y]) ∧ (β = false → cs (i + 1) = cs i ∧ acc (i + 1) = acc i)) :
    Lc X tg iter elt ifs scope own g s (acc ds.length) ⟨s1.sl, cs ds.length⟩ where
  blk := hblk
  h1 := hifs
  hg := hg
  run := fun as B H σ ok Q q => hi as B H σ ok _ fun J B1 H1 x1 o1 it => fun Dl hD => by
    have hDas : Dl ∉ as := free_lt o1 hD
    have hDB : B1 Dl = none := o1.sm.free hD
    have c0' : (⟨s1.sl, cs 0⟩ : A) = s1 := by rw [c0]
    refine ⟨fun i m H' => m = ds.length - i ∧ i ≤ ds.length ∧ ∃ B', Ext as B1 H1 as B' H' ∧ Ok X.K as B' H' σ ⟨s1.sl, cs i⟩ ∧ B' Dl = none ∧ ∃ vs, H' Dl = some (.lst vs) ∧ Reps X.K B' vs (acc i),
      ⟨ds.length, by simp, Nat.zero_le _, B1, (Ext.refl as B1 H1).poke hD, by rw [c0']; exact o1.poke hDas hDB, hDB, [], upd_same, by rw [h0]; exact .nil⟩, ?_⟩
    rintro i m H' ⟨rfl, hle, B', x2, o2, hB', vs, hv, hr⟩
    have sm : Same B1 H' := x2.b.trans o2.sm
    by_cases hlt : i < ds.length
    · refine .inr ⟨it.go i H' hlt sm, fun H2 => ∃ B2, Ext as B1 H1 as B2 H2 ∧ Ok X.K as B2 H2 σ ⟨s1.sl, cs (i + 1)⟩ ∧ B2 Dl = none ∧ ∃ vs, H2 Dl = some (.lst vs) ∧ Reps X.K B2 vs (acc (i + 1)), fun H2 z => ⟨ds.length - (i + 1), by omega, rfl, hlt, z⟩, fun v H2 y => ?_⟩
      obtain ⟨rfl, d, hd', rd⟩ := it.yld i H' v H2 hlt sm y
      obtain ⟨sl', β, hu, ht, hy, hn⟩ := hs i d hd'
      have ow := o2.wiped (own.map (·.2)) fun v hv => T.lt v hv
      refine T.go ow (wipeL_length _ _) (rd.mono x2.b) hu _ fun σ' o3 hw => ⟨hw, ?_⟩
      refine jts_run ht o3 fun B3 H3 x3 o4 => ?_
      have hD3 : H2 Dl ≠ none := ne_none hv
      have hB3 : B3 Dl = none := x3.n Dl hB' hD3 hDas
      have back : ∀ {B4 H4 c4 σ4 l4}, Ext as B' H2 as B4 H4 → Ok X.K as B4 H4 σ4 ⟨l4, c4⟩ → Ok X.K as B4 H4 σ ⟨s1.sl, c4⟩ := fun {B4 H4 c4 σ4 l4} x o => ⟨o.sm, o.nd, o.ht, o.nb, o.cs, o2.ln, fun i y hy => (o2.sl i y hy).mono x.b ⟨[], by simp⟩⟩
      cases β with
      | true =>
        obtain ⟨y, he, hacc⟩ := hy rfl
        refine iteT fun s0 H0 C0 cl0 fp0 => ?_
        refine he s0 H0 C0 cl0 fp0 as B3 H3 σ' o4 _ fun u B4 H4 x4 o5 r5 => ?_
        have hB4 : B4 Dl = none := x4.n Dl hB3 (x3.t Dl hD3) hDas
        have hv4 : H4 Dl = some (.lst vs) := x4.k Dl _ hDas (x3.k Dl _ hDas hv)
        refine ⟨vs, hv4, by rw [hr.length]; exact hlen i hlt, B4, ((x2.trans x3).trans x4).poke hD, (back (x3.trans x4) o5).poke hDas hB4, hB4, vs ++ [u], upd_same, ?_⟩
        rw [hacc]
        exact (hr.mono (x3.trans x4).b).append (.cons r5 .nil)
      | false =>
        obtain ⟨e1, e2⟩ := hn rfl
        refine iteF ⟨B3, x2.trans x3, ?_, hB3, vs, x3.k Dl _ hDas hv, by rw [e2]; exact hr.mono x3.b⟩
        rw [e1]
        exact back x3 o4
    · have e : i = ds.length := by omega
      subst e
      exact .inl ⟨it.stop H' sm, q Dl vs B' H' (x1.trans x2) o2 (x1.back hD) hB' hv hr⟩
theorem jf_lc {g : TG} (C : Cok X W k) (L : Lc X tg iter elt ifs scope own g s xs s') (hs : ∀ x, foldedSetIterable iter X.env x = pure x := by intro _; rfl) : JF X (.ListComp elt [⟨tg, iter, ifs, 0⟩] scope pos) s xs s' :=
  jf_of (pe_lc (te := tBE X scope elt) C.calm C.nd pi_w L.blk L.hg (pts_w L.h1) (fun s0 H0 C0 cl0 fp0 => ⟨fun pins s' σ H' Q I h => h s0 H0 C0 cl0 fp0 pins s' I⟩) hs) L.run
/-- y = [..], a plain local on the same line -/
theorem js_setLc (i : Nat) {g : TG} {spos py : Pos} {cl : List Cl} (C : Cok X W k) (L : Lc X tg iter elt ifs scope own g s xs s') (hP : P.nx ⟨l, cl⟩) (hl : s'.sl.set i (.d (.lst xs)) = l := by (first | (dsimp only [List.set, List.length_cons, List.length_nil, List.cons_append, List.nil_append, Nat.reduceAdd]; done) | (dsimp only [List.set, List.length_cons, List.length_nil, List.cons_append, List.nil_append, Nat.reduceAdd]; exact rfl) | exact rfl)) (hcl : s'.cl = cl := by (first | (dsimp only [List.set, List.length_cons, List.length_nil, List.cons_append, List.nil_append, Nat.reduceAdd]; done) | (dsimp only [List.set, List.length_cons, List.length_nil, List.cons_append, List.nil_append, Nat.reduceAdd]; exact rfl) | exact rfl)) (hy : X.N[i]? = some x := by rfl) (hyl : X.env.scope.names.lookup x = some .local := by rfl) (hn : i < s'.sl.length := by exact of_decide_eq_true rfl)
    (hsw : swapsWith (.ListComp elt [⟨tg, iter, ifs, 0⟩] scope pos) (some (.Name x py)) spos.line X.env = pure true := by exact sw_true rfl rfl rfl (by decide +kernel)) (hs : ∀ x, foldedSetIterable iter X.env x = pure x := by intro _; rfl) : JS X W (.Assign [.Name x py] (.ListComp elt [⟨tg, iter, ifs, 0⟩] scope pos) spos) s P :=
  js_of (ps_setLc (te := tBE X scope elt) C.calm C.nd hy hyl hsw pi_w L.blk L.hg (pts_w L.h1) (fun s0 H0 C0 cl0 fp0 => ⟨fun pins s' σ H' Q I h => h s0 H0 C0 cl0 fp0 pins s' I⟩) hs) fun as B H σ ok Dn f => by
    have je : ∀ Q : VK, (∀ v B' H', Ext as B H as B' H' → Ok X.K as B' H' σ s' → Rep X.K B' v (.lst xs) → Q v H') → tLc (wI X tg iter) g (tBTs X scope ifs) (tBE X scope elt) (own.map (·.2)) σ H Q := fun Q q => L.run as B H σ ok _ fun p vs B' H' x o hp hB hH hr => by
      have sB : Same B' (upd B' p (.lst vs)) := same_upd' hB
      refine q _ (upd B' p (.lst vs)) H' ⟨x.b.trans sB, x.k, fun y e1 e2 e3 => ?_, x.l, x.t⟩ ⟨fun y u e => ?_, o.nd, o.ht, fun j y c h1 h2 h3 => ?_, ⟨o.cs.1, fun j y c h1 h2 => (o.cs.2 j y c h1 h2).mono sB ⟨[], by simp⟩ fun _ _ z => z⟩, o.ln, fun i y hy => (o.sl i y hy).mono sB ⟨[], by simp⟩⟩ (.lst upd_same (hr.mono sB))
      · rw [upd_ne (fun z => e2 (by rw [z]; exact hp))]; exact x.n y e1 e2 e3
      · by_cases e1 : y = p
        · rw [e1, upd_same] at e; rw [e1, hH]; exact e
        · rw [upd_ne e1] at e; exact o.sm _ _ e
      · rw [upd_ne (fun z => free_lt ok hp (by rw [← z]; exact List.mem_of_getElem? h1))]; exact o.nb j y c h1 h2 h3
    refine je _ fun v B' H' x o r => ?_
    have o2 := o.store (i := i) (o := some v) (x := .d (.lst xs)) hn ⟨v, rfl, r⟩
    rw [hl] at o2
    rw [← hcl] at hP
    exact f.nx as B' H' _ _ x o2 hP
theorem js_newLc (i : Nat) {g : TG} {spos py : Pos} (C : Cok X W k) {cl : List Cl} (L : Lc X tg iter elt ifs scope own g s xs s') (hP : P.nx ⟨l, cl⟩) (hl : s'.sl.set i (.c s'.cl.length) = l := by (first | (dsimp only [List.set, List.length_cons, List.length_nil, List.cons_append, List.nil_append, Nat.reduceAdd]; done) | (dsimp only [List.set, List.length_cons, List.length_nil, List.cons_append, List.nil_append, Nat.reduceAdd]; exact rfl) | exact rfl)) (hcl : s'.cl ++ [.lst xs] = cl := by (first | (dsimp only [List.set, List.length_cons, List.length_nil, List.cons_append, List.nil_append, Nat.reduceAdd]; done) | (dsimp only [List.set, List.length_cons, List.length_nil, List.cons_append, List.nil_append, Nat.reduceAdd]; exact rfl) | exact rfl)) (hy : X.N[i]? = some x := by rfl) (hyl : X.env.scope.names.lookup x = some .local := by rfl) (hn : i < s'.sl.length := by exact of_decide_eq_true rfl)
    (hsw : swapsWith (.ListComp elt [⟨tg, iter, ifs, 0⟩] scope pos) (some (.Name x py)) spos.line X.env = pure true := by exact sw_true rfl rfl rfl (by decide +kernel)) (hs : ∀ x, foldedSetIterable iter X.env x = pure x := by intro _; rfl) : JS X W (.Assign [.Name x py] (.ListComp elt [⟨tg, iter, ifs, 0⟩] scope pos) spos) s P :=
  js_of (ps_setLc (te := tBE X scope elt) C.calm C.nd hy hyl hsw pi_w L.blk L.hg (pts_w L.h1) (fun s0 H0 C0 cl0 fp0 => ⟨fun pins s' σ H' Q I h => h s0 H0 C0 cl0 fp0 pins s' I⟩) hs) fun as B H σ ok Dn f => L.run as B H σ ok _ fun p vs B' H' x o hp hB hH hr => by
    have o1 := o.adopt (free_lt ok hp) hB hH hr
    have hl1 := o.cs.1
    have o2 := o1.store (i := i) (o := some (.ref p)) (x := .c s'.cl.length) hn ⟨p, by rw [← hl1, List.getElem?_append_right (Nat.le_refl _)]; simp, rfl⟩
    dsimp only at o2
    rw [hl] at o2
    rw [← hcl] at hP
    exact f.nx _ B' H' _ _ (x.adopt hp) o2 hP

/-! ### defs on values -/
/-- called with ds it comes to r -/
def spD (K : PySem.W.Frag) (pre : List D → Res → Prop) : Sp := fun vs H Q E => ∃ (B : Hp) (ds : List D) (r : Res), Same B H ∧ Reps K B vs ds ∧ pre ds r ∧ match r with
  | .ok d => ∀ v B' H', Ext [] B H [] B' H' → Same B' H' → Rep K B' v d → Q v H'
  | .er c => ∀ B' H', Ext [] B H [] B' H' → Same B' H' → E (.ref c) none H'
/-- a def as callers have it -/
structure Fn (P : Program) (w : World) (K : PySem.W.Frag) (mg : Str → Option Value) (base : Heap) (x : Str) (n k : Nat) (pre : List D → Res → Prop) : Prop where
  ex : ∃ (f : Addr) (fd : FuncData) (ps : List Str), ps.length = n ∧ FnOk P w K mg base (L2.CX P w) k f fd ps (spD K pre) ∧ mg x = some (.ref f) ∧ PySem.W.keepIn K (.ref f) = true ∧ Binds K fd ps []
theorem je_callE {n j : Nat} {pre : List D → Res → Prop} (C : Cok X W k) (F : Fn X.prog X.w X.K X.mg X.base x n j pre) (hk : j ≤ k) (ha : JD X (e :: es) s ds s1) (hp : pre ds r) (hg : Gl X x := by rfl) (hdb : (x == ("__debug__" : Str)) = false := by decide) (he : starEach (e :: es) X.env = (false, eval e X.env) :: starEach es X.env := by rfl) (hpl : (backTo pos (starEach es X.env)).any (·.1) = false := by rfl) :
    JE X W (.Call (.Name x p) (e :: es) [] pos) s r s1 := fun as B H σ ok Q q => by
  obtain ⟨f, fd, ps, hn, hf, hm, hkp, hb⟩ := F.ex
  refine wE_of (pe_callS hf (C.hr.mono hk) hg hm hkp hb (fun σ => passAt C.tk σ) pa_w hdb he hpl) (ha as B H σ ok _ fun vs B1 H1 x1 o1 r1 => ?_)
  refine ⟨B1, ds, r, o1.sm, r1, hp, ?_⟩
  have up : ∀ {B' H'}, Ext [] B1 H1 [] B' H' → Same B' H' → Ext as B1 H1 as B' H' ∧ Ok X.K as B' H' σ s1 := fun {B' H'} y sm => by
    have sH : Same H1 H' := fun a o e => y.k a o (fun z => nomatch z) e
    exact ⟨⟨y.b, fun a o _ e => sH _ _ e, fun a h1 h2 _ => y.n a h1 h2 (fun z => nomatch z), ⟨[], by simp, fun _ z => nomatch z⟩, y.t⟩,
      ⟨sm, o1.nd, fun a ha => y.t a (o1.ht a ha), fun j a c h1 h2 h3 => y.n a (o1.nb j a c h1 h2 h3) (o1.ht a (List.mem_of_getElem? h1)) (fun z => nomatch z), ⟨o1.cs.1, fun j a c h1 h2 => (o1.cs.2 j a c h1 h2).mono y.b ⟨[], by simp⟩ fun _ u e => sH _ _ e⟩, o1.ln, fun i z hz => (o1.sl i z hz).mono y.b ⟨[], by simp⟩⟩⟩
  cases r with
  | ok d =>
    intro v B' H' y sm rv
    obtain ⟨x2, o2⟩ := up y sm
    exact q v B' H' (x1.trans x2) o2 rv
  | er c =>
    intro B' H' y sm
    obtain ⟨x2, o2⟩ := up y sm
    exact q B' H' (x1.trans x2) o2
theorem je_call {V : WX} {n j : Nat} {pre : List D → Res → Prop} (C : Cok X V k) (F : Fn X.prog X.w X.K X.mg X.base x n j pre) (hk : j ≤ k) (ha : JD X (e :: es) s ds s1) (hp : pre ds (.ok d)) (hg : Gl X x := by rfl) (hdb : (x == ("__debug__" : Str)) = false := by decide) (he : starEach (e :: es) X.env = (false, eval e X.env) :: starEach es X.env := by rfl) (hpl : (backTo pos (starEach es X.env)).any (·.1) = false := by rfl) :
    JE X W (.Call (.Name x p) (e :: es) [] pos) s (.ok d) s1 := by
  have h : JE X V (.Call (.Name x p) (e :: es) [] pos) s (.ok d) s1 := je_callE (W := V) C F hk ha hp hg hdb he hpl
  exact h
/-- what a body on values is to reach -/
def PoR (r : Res) : Po := { nx := fun _ => r = .ok .non, rt := fun d _ => r = .ok d, bk := fun _ => False, ct := fun _ => False, ex := fun c _ => r = .er c }
/-- the slots at a body's start -/
def sl0 (N : List Str) (ds : List D) : List Sl := ds.map .d ++ List.replicate (N.length - ds.length) .u
theorem ok_start {K : PySem.W.Frag} {N : List Str} {B H : Hp} {vs : List V} (sm : Same B H) (r : Reps K B vs ds) (hl : ds.length ≤ N.length) : Ok K [] B H (L2.start N vs) ⟨sl0 N ds, []⟩ where
  sm := sm
  nd := List.nodup_nil
  ht := fun _ z => nomatch z
  nb := fun j a c h => by simp at h
  cs := ⟨rfl, fun j a c h => by simp at h⟩
  ln := by
    have := r.length
    simp [L2.start, sl0]
    omega
  sl := fun i x hx => by
    have hl2 := r.length
    have hx' : (ds.map Sl.d ++ List.replicate (N.length - ds.length) .u)[i]? = some x := hx
    unfold L2.start
    by_cases hi : i < ds.length
    · rw [List.getElem?_append_left (by simpa using hi), List.getElem?_map] at hx'
      rw [List.getElem?_append_left (by simp; omega), List.getElem?_map]
      cases q : ds[i]? with
      | none => rw [q] at hx'; cases hx'
      | some d =>
        rw [q] at hx'
        cases hx'
        obtain ⟨v, h1, h2⟩ := r.get q
        rw [h1]
        exact ⟨v, rfl, h2⟩
    · rw [List.getElem?_append_right (by simp; omega), List.getElem?_replicate] at hx'
      split at hx'
      · cases hx'; exact True.intro
      · cases hx'
section
variable {Pg : Program} {w : World} {K : PySem.W.Frag} {mg : Str → Option Value} {base : Heap}
theorem fn_okX {qual : Str} {f : Addr} {fd : FuncData} {N ps : List Str} {pre : List D → Res → Prop} (F : Fun K x qual st f fd) (S : FnScope N ps (defScope st)) (hb : Binds K fd ps []) (hm : mg x = some (.ref f)) (hlen : ∀ ds r, pre ds r → ds.length = ps.length) (hN : ps.length ≤ N.length := by (show _ ≤ _; decide))
    (body : ∀ (cdv : Value) (A : Around) (outer : List Env) (s : Shared) (H : Hp) (E : XK), Cok (cxOf (L2.CX Pg w) Pg w K mg base N qual (defScope st) f cdv A outer s H E) (fun cls d _ H => E cls d H) k → ∀ ds r, pre ds r →
      JB (cxOf (L2.CX Pg w) Pg w K mg base N qual (defScope st) f cdv A outer s H E) (fun cls d _ H => E cls d H) (defBody st) ⟨sl0 N ds, []⟩ (PoR r)) : FnOk Pg w K mg base (L2.CX Pg w) (k + 1) f fd ps (spD K pre) :=
  F.okX S (fun vs H Q E h => by
      obtain ⟨B, ds, r, _, hr, hp, _⟩ := h
      rw [hr.length]
      exact hlen ds r hp) (fun cdv A outer s H vs Q E hr h => by
      obtain ⟨B, ds, r, sm, hrep, hp, q⟩ := h
      refine ⟨_, pss_w, ?_⟩
      have C : Cok (cxOf (L2.CX Pg w) Pg w K mg base N qual (defScope st) f cdv A outer s H E) (fun cls d _ H => E cls d H) k := ⟨hr, takes_of rfl rfl rfl rfl, rfl, passes_of rfl, S.nd⟩
      refine body cdv A outer s H E C ds r hp [] B H _ (ok_start sm hrep (by rw [hlen ds r hp]; exact hN)) _ ⟨?_, ?_, ?_, ?_, ?_⟩
      · intro as' B' H' σ' s' x o z
        have z' : r = .ok .non := z
        subst z'
        exact q .non B' H' ⟨x.b, x.k, x.n, ⟨[], rfl, fun _ z => nomatch z⟩, x.t⟩ o.sm .non
      · intro as' B' H' σ' s' v d x o rv z
        have z' : r = .ok d := z
        subst z'
        exact q v B' H' ⟨x.b, x.k, x.n, ⟨[], rfl, fun _ z => nomatch z⟩, x.t⟩ o.sm rv
      · intro as' B' H' σ' s' x o z; exact z.elim
      · intro as' B' H' σ' s' x o z; exact z.elim
      · intro as' B' H' σ' s' c x o z
        have z' : r = .er c := z
        subst z'
        exact q B' H' ⟨x.b, x.k, x.n, ⟨[], rfl, fun _ z => nomatch z⟩, x.t⟩ o.sm)
theorem fn_ok {qual : Str} {f : Addr} {fd : FuncData} {N ps : List Str} {pre : List D → Res → Prop} (F : Fun K x qual st f fd) (S : FnScope N ps (defScope st)) (hb : Binds K fd ps []) (hm : mg x = some (.ref f)) (hlen : ∀ ds r, pre ds r → ds.length = ps.length) (hN : ps.length ≤ N.length := by (show _ ≤ _; decide))
    (body : ∀ (cdv : Value) (A : Around) (outer : List Env) (s : Shared) (H : Hp) (E : XK), Cok (cxOf (L2.CX Pg w) Pg w K mg base N qual (defScope st) f cdv A outer s H E) (fun cls d _ H => E cls d H) k → ∀ ds r, pre ds r →
      JB (cxOf (L2.CX Pg w) Pg w K mg base N qual (defScope st) f cdv A outer s H E) (fun cls d _ H => E cls d H) (defBody st) ⟨sl0 N ds, []⟩ (PoR r)) : Fn Pg w K mg base x ps.length (k + 1) pre where
  ex := ⟨f, fd, ps, rfl, fn_okX F S hb hm hlen hN body, hm, F.kp, hb⟩
end
/-! ### raise -/
structure ExcOf (K : PySem.W.Frag) (mg : Str → Option Value) (x : Str) (c : Addr) : Prop where
  q : PySem.W.excIn K c [.type "ValueError", .type "Exception", .type "BaseException", .type "object"] "ValueError.__new__" = true
  g : mg x = some (.ref c)
  kp : PySem.W.keepIn K (.ref c) = true
  sb : PySem.W.subIn K (.ref c) (.type "BaseException") = some true
  ty : PySem.W.typeIn K (.ref c) = some (.type "type")
theorem js_raise {ce : Addr} {m : Str} {j : Nat} {p3 : Pos} (C : Cok X W k) (h : ExcOf X.K X.mg x ce) (hP : P.ex ce s) (hg : Gl X x := by rfl) (hdb : (x == ("__debug__" : Str)) = false := by decide) : JS X W (.Raise (some (.Call (.Name x p) [.Constant (.str m) j p2] [] p3)) none pos) s P :=
  js_of (ps_raise C.calm C.tk (pmk_own PySem.F.excBase_ValueError h.q h.g h.kp (raises_own h.sb h.ty) hg hdb)) fun as B H σ ok Dn f => f.ex as B H σ s ce (Ext.refl ..) ok hP
end
end DL
set_option Elab.async false
set_option linter.all false
set_option maxRecDepth 100000
set_option maxHeartbeats 4000000
set_option autoImplicit true
/-! DLg: short words -/
namespace DL
open PySem PySem.Spec PyProof.Rows L2
section
variable {X : Cx} {W : WX} {k : Nat} {e a b c tg iter elt : Expr} {es rest tgs ifs : List Expr} {st : Stmt} {sts body orelse : List Stmt} {s s' s1 s2 s3 : A} {P : Po} {d d' d1 d2 d3 da db dc : D} {r : Res} {ds : List D} {xs ys : List D} {pos p2 p apos pos' px py pz : Pos} {x y z : Str} {β β1 β2 : Bool} {op : CmpOp} {l : List Sl} {scope : Scope} {own : List (Str × Nat)} {R : A → Prop} {q : Nat}
theorem jg_n2 (i j : Nat) (C : Cok X W k) {cl : List Cl} (hR : R ⟨l, cl⟩) (hl : (s.sl.set i (.d d1)).set j (.d d2) = l := by (first | (dsimp only [List.set, List.length_cons, List.length_nil, List.cons_append, List.nil_append, Nat.reduceAdd]; done) | (dsimp only [List.set, List.length_cons, List.length_nil, List.cons_append, List.nil_append, Nat.reduceAdd]; exact rfl) | exact rfl)) (hcl : s.cl = cl := by (first | (dsimp only [List.set, List.length_cons, List.length_nil, List.cons_append, List.nil_append, Nat.reduceAdd]; done) | (dsimp only [List.set, List.length_cons, List.length_nil, List.cons_append, List.nil_append, Nat.reduceAdd]; exact rfl) | exact rfl)) (hi : X.N[i]? = some x := by rfl) (hj : X.N[j]? = some y := by rfl) (hx : Loc X.env.scope x := by first | exact .inl rfl | exact .inr rfl) (hy : Loc X.env.scope y := by first | exact .inl rfl | exact .inr rfl)
    (hn : i < s.sl.length := by exact of_decide_eq_true rfl) (hn2 : j < s.sl.length := by exact of_decide_eq_true rfl) (hf : X.fn x = true ∨ X.env.scope.names.lookup x = some .local := by first | exact .inl rfl | exact .inr rfl) (hf2 : X.fn y = true ∨ X.env.scope.names.lookup y = some .local := by first | exact .inl rfl | exact .inr rfl)
    (h1 : (assignEach [Expr.Name x px, Expr.Name y py] X.env).map (·.2) = assign (.Name x px) X.env :: (assignEach [Expr.Name y py] X.env).map (·.2) := by rfl) (h2 : (assignEach [Expr.Name y py] X.env).map (·.2) = assign (.Name y py) X.env :: (assignEach [] X.env).map (·.2) := by rfl)
    (h3 : (assignEach [Expr.Name x px, Expr.Name y py] X.env).length = 2 := by rfl) (h4 : (assignEach [Expr.Name x px, Expr.Name y py] X.env).findIdx? (·.1) = none := by rfl) : JG X (.Tuple [.Name x px, .Name y py] q pos) (.tup [d1, d2]) s R :=
  jg_tup C.calm (jgs_cons (jg_name i C.nd (jgs_cons (jg_name j C.nd (jgs_nil (by rw [← hl, ← hcl] at hR; exact hR)) rfl rfl hj hy (by rw [List.length_set]; exact hn2) hf2) h2) rfl rfl hi hx hn hf) h1) rfl h3 h4
theorem jg_n3 (i j m : Nat) (C : Cok X W k) {cl : List Cl} (hR : R ⟨l, cl⟩) (hl : ((s.sl.set i (.d d1)).set j (.d d2)).set m (.d d3) = l := by (first | (dsimp only [List.set, List.length_cons, List.length_nil, List.cons_append, List.nil_append, Nat.reduceAdd]; done) | (dsimp only [List.set, List.length_cons, List.length_nil, List.cons_append, List.nil_append, Nat.reduceAdd]; exact rfl) | exact rfl)) (hcl : s.cl = cl := by (first | (dsimp only [List.set, List.length_cons, List.length_nil, List.cons_append, List.nil_append, Nat.reduceAdd]; done) | (dsimp only [List.set, List.length_cons, List.length_nil, List.cons_append, List.nil_append, Nat.reduceAdd]; exact rfl) | exact rfl)) (hi : X.N[i]? = some x := by rfl) (hj : X.N[j]? = some y := by rfl) (hm : X.N[m]? = some z := by rfl) (hx : Loc X.env.scope x := by first | exact .inl rfl | exact .inr rfl) (hy : Loc X.env.scope y := by first | exact .inl rfl | exact .inr rfl) (hz : Loc X.env.scope z := by first | exact .inl rfl | exact .inr rfl)
    (hn : i < s.sl.length := by exact of_decide_eq_true rfl) (hn2 : j < s.sl.length := by exact of_decide_eq_true rfl) (hn3 : m < s.sl.length := by exact of_decide_eq_true rfl) (hf : X.fn x = true ∨ X.env.scope.names.lookup x = some .local := by first | exact .inl rfl | exact .inr rfl) (hf2 : X.fn y = true ∨ X.env.scope.names.lookup y = some .local := by first | exact .inl rfl | exact .inr rfl) (hf3 : X.fn z = true ∨ X.env.scope.names.lookup z = some .local := by first | exact .inl rfl | exact .inr rfl)
    (h0 : (assignEach [Expr.Name x px, Expr.Name y py, Expr.Name z pz] X.env).map (·.2) = assign (.Name x px) X.env :: (assignEach [Expr.Name y py, Expr.Name z pz] X.env).map (·.2) := by rfl)
    (h1 : (assignEach [Expr.Name y py, Expr.Name z pz] X.env).map (·.2) = assign (.Name y py) X.env :: (assignEach [Expr.Name z pz] X.env).map (·.2) := by rfl) (h2 : (assignEach [Expr.Name z pz] X.env).map (·.2) = assign (.Name z pz) X.env :: (assignEach [] X.env).map (·.2) := by rfl)
    (h3 : (assignEach [Expr.Name x px, Expr.Name y py, Expr.Name z pz] X.env).length = 3 := by rfl) (h4 : (assignEach [Expr.Name x px, Expr.Name y py, Expr.Name z pz] X.env).findIdx? (·.1) = none := by rfl) : JG X (.Tuple [.Name x px, .Name y py, .Name z pz] q pos) (.tup [d1, d2, d3]) s R :=
  jg_tup C.calm (jgs_cons (jg_name i C.nd (jgs_cons (jg_name j C.nd (jgs_cons (jg_name m C.nd (jgs_nil (by rw [← hl, ← hcl] at hR; exact hR)) rfl rfl hm hz (by rw [List.length_set, List.length_set]; exact hn3) hf3) h2) rfl rfl hj hy (by rw [List.length_set]; exact hn2) hf2) h1) rfl rfl hi hx hn hf) h0) rfl h3 h4
theorem jt_chainC {op' : CmpOp} (C : Cok X W k) (ha : JE X WN a s (.ok da) s) (hb : JE X WN b s (.ok db) s) (h : CmpD op da db β1) (hc : β1 = true → JE X WN c s (.ok dc) s ∧ CmpD op' db dc β2) (hm : lastMarks [op, op'] [b, c] = false := by with_unfolding_all rfl) :
    JT X (.Compare a [op, op'] [b, c] pos) s (β1 && β2) := by
  obtain ⟨r, ho, hr⟩ := cmp_rule C.u65 h
  cases β1 with
  | true =>
    obtain ⟨hc, h'⟩ := hc rfl
    obtain ⟨r', ho', hr'⟩ := cmp_rule C.u65 h'
    exact jt_of (pt_chain ho ho' pe_w pe_w pe_w hm) fun as B H σ ok Q q => Ok.two ha hb ok fun x y B2 H2 e2 o2 rx ry => hr B2 H2 x y _ o2.sm rx ry ⟨true, rfl, by
      rw [if_pos rfl]
      exact Ok.one hc o2 fun z B3 H3 e3 o3 rz => hr' B3 H3 y z _ o3.sm (ry.mono e3.b) rz ⟨_, rfl, q B3 H3 (e2.trans e3) o3⟩⟩
  | false =>
    exact jt_of (pt_chain ho op_nev pe_w pe_w pe_w hm) fun as B H σ ok Q q => Ok.two ha hb ok fun x y B2 H2 e2 o2 rx ry => hr B2 H2 x y _ o2.sm rx ry ⟨false, rfl, by
      rw [if_neg (by decide)]
      exact ⟨_, rfl, q B2 H2 e2 o2⟩⟩
theorem jt_chain {op' : CmpOp} (C : Cok X W k) (ha : JE X WN a s (.ok da) s) (hb : JE X WN b s (.ok db) s) (h : CmpD op da db β1) (hc : JE X WN c s (.ok dc) s) (h' : CmpD op' db dc β2) (hm : lastMarks [op, op'] [b, c] = false := by with_unfolding_all rfl) :
    JT X (.Compare a [op, op'] [b, c] pos) s (β1 && β2) := jt_chainC C ha hb h (fun _ => ⟨hc, h'⟩) hm
theorem je_chain' {op' : CmpOp} {V : WX} (C : Cok X V k) (ha : JE X W a s (.ok da) s) (hb : JE X W b s (.ok db) s) (h : CmpD op da db β1) (hc : JE X W c s (.ok dc) s) (h' : CmpD op' db dc β2) (hm : lastMarks [op, op'] [b, c] = false := by with_unfolding_all rfl) :
    JE X W (.Compare a [op, op'] [b, c] pos) s (.ok (.bl (β1 && β2))) s := je_chain C ha hb h (fun _ => ⟨hc, h'⟩) hm
theorem rng_get {n i : Nat} {f : Nat → D} (h : ((List.range n).map f)[i]? = some d) : i < n ∧ d = f i := by
  rw [List.getElem?_map] at h
  cases q : (List.range n)[i]? with
  | none => rw [q] at h; cases h
  | some j =>
    rw [q] at h
    obtain ⟨h1, h2⟩ := List.getElem?_eq_some_iff.mp q
    rw [List.getElem_range] at h2
    rw [List.length_range] at h1
    subst h2
    exact ⟨h1, (Option.some.inj h).symm⟩
theorem atI_map {α β : Type} (f : α → β) {l : List α} {i : Nat} {x : α} (h : l[i]? = some x) : L2.atI (l.map f) (i : Int) = some (f x) := atI_nat (by rw [List.getElem?_map, h]; rfl)
theorem Cok.blk (C : Cok X W k) : Blk X scope fun Y => Cok Y WN k := fun s0 H0 C0 cl0 fp0 => ⟨C.hr, takes0, C.calm, PassesOwn.never, C.nd⟩
theorem je_w {W' : WX} (h : JE X W e s (.ok d) s') : JE X W' e s (.ok d) s' := h
theorem je_allM {α : Type} {lst : List α} {pr : α → Bool} {V : WX} (C : Cok X V k) (hm : X.mg "all" = none) (ha : JE X W a s (.ok (.lst (lst.map fun z => .bl (pr z)))) s1) (hg : Gl X "all" := by rfl)
    (he : starEach (a :: []) X.env = (false, eval a X.env) :: starEach [] X.env := by rfl) (hpl : (backTo pos (starEach [] X.env)).any (·.1) = false := by rfl) : JE X W (.Call (.Name "all" p) [a] [] pos) s (.ok (.bl (lst.all pr))) s1 := by
  have e : (lst.map pr).all id = lst.all pr := by rw [List.all_map]; rfl
  rw [← e]
  refine je_all (bs := lst.map pr) C hm ?_ hg he hpl
  rw [List.map_map]
  exact ha
theorem je_anyM {α : Type} {lst : List α} {pr : α → Bool} {V : WX} (C : Cok X V k) (hm : X.mg "any" = none) (ha : JE X W a s (.ok (.lst (lst.map fun z => .bl (pr z)))) s1) (hg : Gl X "any" := by rfl)
    (he : starEach (a :: []) X.env = (false, eval a X.env) :: starEach [] X.env := by rfl) (hpl : (backTo pos (starEach [] X.env)).any (·.1) = false := by rfl) : JE X W (.Call (.Name "any" p) [a] [] pos) s (.ok (.bl (lst.any pr))) s1 := by
  have e : (lst.map pr).any id = lst.any pr := by rw [List.any_map]; rfl
  rw [← e]
  refine je_any (bs := lst.map pr) C hm ?_ hg he hpl
  rw [List.map_map]
  exact ha
/-- [elt for x in l], x in slot i -/
theorem lc_map {α : Type} (i : Nat) (lst : List α) {enc f : α → D} (C : Cok X W k) (hi : JI X (.Name x px) iter s (lst.map enc) s1)
    (hs : ∀ a ∈ lst, Blk X scope fun Y => Cok Y WN k → JE Y WN elt ⟨s1.sl.set i (.d (enc a)), s1.cl⟩ (.ok (f a)) ⟨s1.sl.set i (.d (enc a)), s1.cl⟩) (hlen : lst.length ≤ sizeLine := by assumption)
    (hblk : blkC X.N X.env.scope scope [(x, i)] = true := by kernel_rfl) (hn : i < s1.sl.length := by exact of_decide_eq_true rfl) (hNi : X.N[i]? = some x := by rfl) (hloc : Blk X scope fun Y => Loc Y.env.scope x := by first | exact fun _ _ _ _ _ => Or.inl rfl | exact fun _ _ _ _ _ => Or.inr rfl) (hfn : Blk X scope fun Y => Y.fn x = true ∨ Y.env.scope.names.lookup x = some .local := by first | exact fun _ _ _ _ _ => .inr rfl | exact fun _ _ _ _ _ => .inl rfl) :
    Lc X (.Name x px) iter elt [] scope [(x, i)] (gName i) s (lst.map f) s1 := by
  have h := lc_mk (elt := elt) (ifs := []) hi (tgt_name (K := X.K) hn) (blkOk_by hblk) (Nat.zero_le _) (fun s0 H0 C0 cl0 fp0 => pg_name C.nd hNi (hloc s0 H0 C0 cl0 fp0) (hfn s0 H0 C0 cl0 fp0)) (fun j => (lst.take j).map f) (fun _ => s1.cl) rfl rfl (fun j hj => by
    rw [List.length_map, List.length_take]
    rw [List.length_map] at hj
    omega) (fun j d hd => by
    rw [List.getElem?_map] at hd
    cases q : lst[j]? with
    | none => rw [q] at hd; cases hd
    | some a =>
      rw [q] at hd
      have hd' : enc a = d := Option.some.inj hd
      subst hd'
      refine ⟨s1.sl.set i (.d (enc a)), true, ?_, rfl, fun _ => ⟨f a, fun s0 H0 C0 cl0 fp0 => hs a (List.mem_of_getElem? q) s0 H0 C0 cl0 fp0 (C.blk s0 H0 C0 cl0 fp0), ?_⟩, fun z => nomatch z⟩
      · show (s1.sl.set i .u).set i (.d (enc a)) = _
        rw [List.set_set]
      · rw [List.take_add_one, q, List.map_append]
        rfl)
  rw [List.length_map, List.take_length] at h
  exact h
theorem lc_as {g : TG} (h : Lc X tg iter elt ifs scope own g s xs s') (e' : xs = ys) : Lc X tg iter elt ifs scope own g s ys s' := e' ▸ h
/-- [elt for x in l if c] -/
theorem lc_filter {α : Type} (i : Nat) (lst : List α) {enc f : α → D} {pr : α → Bool} (C : Cok X W k) (hi : JI X (.Name x px) iter s (lst.map enc) s1)
    (ht : ∀ a ∈ lst, Blk X scope fun Y => Cok Y WN k → JT Y c ⟨s1.sl.set i (.d (enc a)), s1.cl⟩ (pr a))
    (hs : ∀ a ∈ lst, pr a = true → Blk X scope fun Y => Cok Y WN k → JE Y WN elt ⟨s1.sl.set i (.d (enc a)), s1.cl⟩ (.ok (f a)) ⟨s1.sl.set i (.d (enc a)), s1.cl⟩) (hlen : lst.length ≤ sizeLine := by assumption)
    (hblk : blkC X.N X.env.scope scope [(x, i)] = true := by kernel_rfl) (hn : i < s1.sl.length := by exact of_decide_eq_true rfl) (hNi : X.N[i]? = some x := by rfl) (hloc : Blk X scope fun Y => Loc Y.env.scope x := by first | exact fun _ _ _ _ _ => Or.inl rfl | exact fun _ _ _ _ _ => Or.inr rfl) (hfn : Blk X scope fun Y => Y.fn x = true ∨ Y.env.scope.names.lookup x = some .local := by first | exact fun _ _ _ _ _ => .inr rfl | exact fun _ _ _ _ _ => .inl rfl) :
    Lc X (.Name x px) iter elt [c] scope [(x, i)] (gName i) s ((lst.filter pr).map f) s1 := by
  have h := lc_mk (elt := elt) (ifs := [c]) hi (tgt_name (K := X.K) hn) (blkOk_by hblk) (Nat.le_refl _) (fun s0 H0 C0 cl0 fp0 => pg_name C.nd hNi (hloc s0 H0 C0 cl0 fp0) (hfn s0 H0 C0 cl0 fp0)) (fun j => ((lst.take j).filter pr).map f) (fun _ => s1.cl) rfl rfl (fun j hj => by
    have h1 := List.length_filter_le pr (lst.take j)
    rw [List.length_take] at h1
    rw [List.length_map]
    rw [List.length_map] at hj
    omega) (fun j d hd => by
    rw [List.getElem?_map] at hd
    cases q : lst[j]? with
    | none => rw [q] at hd; cases hd
    | some a =>
      rw [q] at hd
      have hd' : enc a = d := Option.some.inj hd
      subst hd'
      have hm := List.mem_of_getElem? q
      refine ⟨s1.sl.set i (.d (enc a)), pr a, ?_, fun s0 H0 C0 cl0 fp0 => ht a hm s0 H0 C0 cl0 fp0 (C.blk s0 H0 C0 cl0 fp0), fun hp => ⟨f a, fun s0 H0 C0 cl0 fp0 => hs a hm hp s0 H0 C0 cl0 fp0 (C.blk s0 H0 C0 cl0 fp0), ?_⟩, fun hp => ⟨rfl, ?_⟩⟩
      · show (s1.sl.set i .u).set i (.d (enc a)) = _
        rw [List.set_set]
      · rw [List.take_add_one, q, List.filter_append, List.map_append]
        simp [hp]
      · rw [List.take_add_one, q, List.filter_append, List.map_append]
        simp [hp])
  rw [List.length_map, List.take_length] at h
  exact h
end
end DL
set_option Elab.async false
set_option linter.all false
set_option maxRecDepth 100000
set_option maxHeartbeats 4000000
set_option autoImplicit true
/-! DLh: try with the error kept, isinstance, further built-ins -/
namespace DL
open PySem PySem.Spec PyProof.Rows L2
section
variable {X : Cx} {σ : L2.St} {H : Hp} {s : Shared} {pins : List (Addr × Obj)}
/-- an object that stood untracked, made since the entry, is tracked -/
theorem Inv.take {a : Addr} {o : HO} {oe : Obj} {vs : Array Value} (I : Inv X pins σ H s) (hex : X.ex = []) (e : s.heap.get? a = some oe) (hd : oe.data = .fields vs) (hn : H a = none) (n0 : X.s_0.heap.get? a = none) (nL : a ≠ X.env.locals) (np : ∀ p ∈ X.pn ++ pins, p.1 ≠ a) (new : ObjOk X.prog X.w (upd H a o) s.heap a o) : Inv X pins σ (upd H a o) s := by
  have neN : ∀ {b : Addr} {u : HO}, H b = some u → b ≠ a := fun {b u} q z => by rw [z, hn] at q; cases q
  have ne0 : ∀ {b : Addr} {u : Obj}, X.s_0.heap.get? b = some u → b ≠ a := fun {b u} q z => by rw [z, n0] at q; cases q
  refine ⟨I.ok, I.os, I.bare, ⟨I.base.keep, I.base.slot, fun b u q n hx => by rw [upd_ne (ne0 q)]; exact I.base.free b u q n hx, I.base.there, fun b xs q => ?_, fun b u xs q => ?_, fun b ps q => ?_⟩, I.loc, I.cell, by rw [upd_ne (Ne.symm nL)]; exact I.free, fun x c q => ?_, fun p hp => ?_, I.hok.laidN (fun _ _ z => z) hn new, I.len⟩
  · have z := I.base.tups b xs q
    rw [upd_ne (neN z)]; exact z
  · have z := I.base.frzs b u xs q
    rw [upd_ne (neN z)]; exact z
  · obtain ⟨m, z⟩ := I.base.tbls b ps q
    exact ⟨m, by rw [upd_ne (neN z)]; exact z⟩
  · rw [upd_ne (fun z => ?_)]
    · exact I.freeC x c q
    · obtain ⟨v, oc, ho, hdc⟩ := I.cell x c q
      rw [z, e] at ho
      cases ho
      rw [hd] at hdc
      cases hdc
  · obtain ⟨h1, h2, h3⟩ := I.pin p hp
    exact ⟨h1, by rw [upd_ne (np p hp)]; exact h2, h3⟩
theorem exH_ok {P : Program} {w : World} {H : Hp} {h : Heap} {a c : Addr} {oe : Obj} {vs : Array Value} (e : h.get? a = some oe) (z : Zc (.ref c) none oe) (d : oe.data = .fields vs) : ObjOk P w H h a (ExH c a) :=
  ⟨⟨oe, vs, e, z, d⟩, ⟨oe, e⟩, fun _ _ ⟨o, v, q, r⟩ k => ⟨o, v, k o q, r⟩⟩
/-- the wish of a try whose clause keeps the error in slot j -/
def wKeep (K : PySem.W.Frag) (cv : Value) (i j : Nat) (D : Ends) : WX := fun cls d σ H => ∃ c : Addr, cls = .ref c ∧ d = none ∧ PySem.W.exmOne K (.ref c) cv = some true ∧ ∀ a, H a = none → D.nx (((σ.set i (some (.ref a))).set j (some (.ref a))).set i none) (upd H a (ExH c a))
variable {x n : Str} {cv : Value} {i j : Nat} {body : List Stmt} {st : Stmt} {np pos pos' : Pos} {tb : WX → TS}
theorem ps_tryKeep (hs : X.stack = X.env :: X.outer) (hf : X.env.frame = some X.env.locals) (hex : X.ex = []) (hN : X.N.Nodup) (hi : X.N[i]? = some n) (hln : X.env.kindOf n = some .local) (hc : Names X x cv)
    (hb : ∀ (W : WX) (pn : List (Addr × Obj)) (xe : Value → Shared → Prop), Takes (X.tr pn xe) W → PassesOwn (model X.prog X.w) X.A X.env xe →
      PSs (X.tr pn xe) body (tb W))
    (hsu : ∀ (a : Addr) (oe : Obj) (pn : List (Addr × Obj)), PSs (X.suite a ((a, oe) :: pn)) [st] (tAsg (tVar i) (gName j))) :
    PS X (.Try body [.ExceptHandler (some (.Name x np)) (some n) [st] pos'] [] [] pos) (fun D σ H => tb (wKeep X.K cv i j D) D σ H) := by
  refine ⟨fun pins s σ H D I h => ?_⟩
  have ok := I.ok
  have frS : X.A.frames = some (X.env :: X.outer) := by rw [ok.frames, hs]
  have locN : Loc X.env.scope n := .inl hln
  refine wpAny_Try_except ?_
  refine wpAny_mono ((hb (wKeep X.K cv i j D) (X.pn ++ pins) (fun e s₁ => wpAny (model X.prog X.w) X.A (noteFrame e X.env) (fun _ s₂ => wpAny (model X.prog X.w) X.A (setFlight e none) (fun _ s₃ =>
    wpAny (model X.prog X.w) X.A (handleBy e X.env [.ExceptHandler (some (.Name x np)) (some n) [st] pos']) (SP X pins D) X.xe s₃) X.xe s₂) X.xe s₁) (fun u t xx => ?_) PassesOwn.looking).run [] s σ H D (I.toTry _) h) (fun f s1 done => ?_) (fun e s1 hx => hx)
  · obtain ⟨a, B, t0, pins', τ, G, cls, d, rfl, I', nb, up, sky, na, os, ag, c, rfl, rfl, hb1, hgo⟩ := xx
    have J : Inv X pins τ G t0 := I'.ofTry ok
    have skyX : Sky B (X.env :: X.outer) a (Zc (.ref c) none) X.env.locals t.heap := by rw [← hs]; exact sky
    show wpAny _ _ (noteFrame (.ref a) X.env) _ _ _
    refine Sky.land Zc.steady frS hf skyX fun m3 fly3 ext3 => ?_
    have I3 : Inv X pins τ G { t with heap := m3 } := J.landed nb fly3.1 (up.trans ext3) os ag
    obtain ⟨ob3, ws3, at3, z3, d3⟩ := fly3.there
    have off : ∀ {h : Heap} {o : Obj} {vs : Array Value}, h.FunFrames B (X.env :: X.outer) → h.get? a = some o → o.data = .fields vs → a ∉ frs (X.env :: X.outer) := fun {h o vs} ff e dd gm => by
      obtain ⟨_, oo, ee, nof⟩ := ff.mem gm
      rw [e] at ee; cases ee
      exact nof _ dd
    have away := off fly3.2.2.1 at3 d3
    have neL : a ≠ X.env.locals := fun z => away (List.mem_filterMap.mpr ⟨X.env, List.mem_cons_self, by rw [hf, z]⟩)
    have noF : a ∉ X.fs := fun gm => by
      obtain ⟨e, hx, w⟩ := List.mem_filterMap.mp gm
      exact away (List.mem_filterMap.mpr ⟨e, List.mem_cons_of_mem _ hx, w⟩)
    have bare0 : t0.heap.get? a = none := by
      cases w : t0.heap.get? a with
      | none => rfl
      | some o =>
        have z := nb a o w (by
          have e : frs X.stack = frs (X.env :: X.outer) := by rw [hs]
          intro gm
          exact away (by rw [← e]; exact gm))
        rw [fly3.2.1] at z
        cases z
    have bare1 : X.s_0.heap.get? a = none := by
      cases w : X.s_0.heap.get? a with
      | none => rfl
      | some o =>
        obtain ⟨oo, z⟩ := J.base.there a o w (by rw [hex]; exact fun z => nomatch z)
        rw [bare0] at z
        cases z
    have pinA : ∀ p ∈ X.pn ++ pins, p.1 ≠ a := fun p hp z => by
      have w := (J.pin p hp).1
      rw [z, bare0] at w
      cases w
    have T3 := I3.suite at3 d3 na neL noF
    refine wpAny_handleBy_cons (codeAny_handlers_test ?_) (by intro w; cases w)
    have tyA : PySem.W.Looks (model X.prog X.w) m3 (typeOf (.ref a)) (.ref c) := fun A Q E s k w => wpAny_typeOf_ref (k _ _ at3) (by rw [z3.1]; exact w)
    have hit := PySem.W.exm_one (M := model X.prog X.w) (I3.kIn) tyA hb1
    have test : ∀ {Q : Value → Shared → Prop} {E : Value → Shared → Prop}, Q cv { t with heap := m3 } → wpAny (model X.prog X.w) (X.A.mark (some (.ref a))) (eval (.Name x np) X.env) Q E { t with heap := m3 } := fun {Q E} w => by
      obtain ⟨gx, ndb, gm | ⟨gm, bv, nnm⟩⟩ := hc
      · exact ld_glob (X := X.suite a ((a, ob3) :: (X.pn ++ pins))) T3 gx gm w ndb
      · exact ld_blt (X := X.suite a ((a, ob3) :: (X.pn ++ pins))) T3 gx gm bv w nnm ndb
    refine test (hit.here (codeAny_handlers_suite_as ?_))
    refine HandSPX.lands_againZ fly3 fun m4 fly4 ext4 => ?_
    have I4 : Inv X pins τ G { t with heap := m4 } := J.landed nb fly4.1 ((up.trans ext3).trans ext4) os ag
    obtain ⟨ob4, ws4, at4, z4, d4⟩ := fly4.there
    have T4 := I4.suite at4 d4 na neL noF
    refine store_ok (X := X.suite a ((a, ob4) :: (X.pn ++ pins))) (v := .ref a) T4 hN hi locN rfl (fun s5 S5 => ?_) (.inr hln)
    have hlen : i < τ.length := by rw [J.len]; exact (List.getElem?_eq_some_iff.mp hi).1
    refine wpAny_mono ((hsu a ob4 (X.pn ++ pins)).run [] s5 _ G { nx := fun σ6 H6 => σ6 = (τ.set i (some (.ref a))).set j (some (.ref a)) ∧ H6 = G, rt := fun _ _ => False, bk := fun _ _ => False, ct := fun _ _ => False } S5 ⟨.ref a, List.getElem?_set_self hlen, rfl, rfl⟩) (fun f s6 done => ?_) (fun _ _ z => False.elim z)
    cases f with
    | next =>
      obtain ⟨σ6, H6, S6, rfl, rfl⟩ := done
      have J6 : Inv X pins _ H6 s6 := S6.unsuite ok
      obtain ⟨he6, hn6, nL6, _⟩ := S6.pin (a, ob4) (by simp)
      have J7 : Inv X pins _ (upd H6 a (ExH c a)) s6 := Inv.take J6 hex he6 d4 na bare1 neL pinA (exH_ok he6 z4 d4)
      exact gone_ok J7 hN hi hln fun s7 J8 => ⟨_, _, J8, hgo a na⟩
    | brk => obtain ⟨_, _, _, z⟩ := done; exact z.elim
    | cont => obtain ⟨_, _, _, z⟩ := done; exact z.elim
    | ret u => obtain ⟨_, _, _, _, _, z⟩ := done; exact z.elim
  · cases f with
    | next =>
      obtain ⟨τ, G, I', w⟩ := done
      exact wpAny_execs_nil ⟨τ, G, I'.ofTry ok, w⟩
    | brk =>
      obtain ⟨τ, G, I', w⟩ := done
      exact ⟨τ, G, I'.ofTry ok, w⟩
    | cont =>
      obtain ⟨τ, G, I', w⟩ := done
      exact ⟨τ, G, I'.ofTry ok, w⟩
    | ret u =>
      obtain ⟨v, τ, G, I', r, w⟩ := done
      exact ⟨v, τ, G, I'.ofTry ok, r, w⟩
end
section
variable {X : Cx} {W : WX} {k : Nat} {e a b c tg iter elt : Expr} {es rest tgs ifs : List Expr} {st : Stmt} {sts body orelse : List Stmt} {s s' s1 s2 s3 : A} {P : Po} {d d' d1 d2 d3 da db dc : D} {r : Res} {ds : List D} {xs ys : List D} {pos p2 p apos pos' px py pz np : Pos} {x y z n : Str} {β β1 β2 : Bool} {op : CmpOp} {l : List Sl} {scope : Scope} {own : List (Str × Nat)} {R : A → Prop} {q : Nat}
theorem Ok.store' {K : PySem.W.Frag} {as : List Addr} {B H : Hp} {σ : L2.St} {s : A} {i : Nat} {o : Option V} {x : Sl} (h : Ok K as B H σ s) (hx : SlOk K B as o x) : Ok K as B H (σ.set i o) ⟨s.sl.set i x, s.cl⟩ := by
  by_cases hi : i < s.sl.length
  · exact h.store hi hx
  · rw [List.set_eq_of_length_le (by rw [h.ln]; omega), List.set_eq_of_length_le (by omega)]
    exact h
def tTry (X : Cx) (body : List Stmt) (W' : WX) : TS := fun D σ H => ∀ (pn : List (Addr × Obj)) (xe : Value → Shared → Prop), Takes (X.tr pn xe) W' → PassesOwn (model X.prog X.w) X.A X.env xe → wB (X.tr pn xe) body D σ H
/-- try: body / except x as n: kept = n; i n's slot, j kept's -/
theorem js_try (i j : Nat) {cv : Value} (C : Cok X W k) (hc : Names X x cv)
    (hb : ∀ (W' : WX) (pn : List (Addr × Obj)) (xe : Value → Shared → Prop), Cok (X.tr pn xe) W' k → JB (X.tr pn xe) W' body s { P with ex := fun c s' => PySem.W.exmOne X.K (.ref c) cv = some true ∧ P.nx ⟨((s'.sl.set i .u).set j (.d (.exc c))).set i .u, s'.cl⟩ })
    (hs : X.stack = X.env :: X.outer := by rfl) (hf : X.env.frame = some X.env.locals := by rfl) (hex : X.ex = [] := by rfl) (hi : X.N[i]? = some n := by rfl) (hj : X.N[j]? = some y := by rfl) (hln : X.env.kindOf n = some .local := by rfl) (hlj : X.env.scope.names.lookup y = some .local := by rfl)
    (hd1 : (n == ("__debug__" : Str)) = false := by decide) (hd2 : (n == ("__classdict__" : Str)) = false := by decide)
    (hsw : swapsWith (.Name n px) (some (.Name y py)) p2.line X.env = pure false := by rfl) :
    JS X W (.Try body [.ExceptHandler (some (.Name x np)) (some n) [.Assign [.Name y py] (.Name n px) p2] pos'] [] [] pos) s P :=
  js_of (ps_tryKeep (tb := tTry X body) hs hf hex C.nd hi hln hc (fun W' pn xe tk hp => ⟨fun pins s σ H D I h => h pn xe tk hp pins s I⟩) (fun a oe pn => pss_one (ps_set C.nd hj (.inl hlj) (pe_var hi (.inl hln) hd1 hd2) hsw (.inr hlj)))) fun as B H σ ok Dn f => fun pn xe tk hp => by
    refine hb _ pn xe ⟨C.hr, tk, C.calm, hp, C.nd⟩ as B H σ ok Dn ⟨f.nx, f.rt, f.bk, f.ct, fun as' B' H' σ' s' c x o z => ⟨c, rfl, rfl, z.1, fun a ha => ?_⟩⟩
    obtain ⟨o1, x1⟩ := o.new (o := ExH c a) ha
    have o2 := o1.store' (i := i) (o := some (.ref a)) (x := .u) True.intro
    have o3 := o2.store' (i := j) (o := some (.ref a)) (x := .d (.exc c)) ⟨.ref a, rfl, .exc upd_same⟩
    have o4 := o3.store' (i := i) (o := none) (x := .u) True.intro
    exact f.nx _ _ _ _ _ (x.trans x1) o4 z.2

/-! ### isinstance -/
inductive IsK (K : PySem.W.Frag) : D → Value → Bool → Prop
  | non {u : Value} {b : Bool} (h : PySem.W.kitOne K (.type "NoneType") u = some b) : IsK K .non u b
  | int {i : Int} {u : Value} {b : Bool} (h : PySem.W.kitOne K (.type "int") u = some b) : IsK K (.int i) u b
  | bl {i : Bool} {u : Value} {b : Bool} (h : PySem.W.kitOne K (.type "bool") u = some b) : IsK K (.bl i) u b
  | str {i : Str} {u : Value} {b : Bool} (h : PySem.W.kitOne K (.type "str") u = some b) : IsK K (.str i) u b
  | lst {xs : List D} {u : Value} {b : Bool} (h : PySem.W.kitOne K (.type "list") u = some b) : IsK K (.lst xs) u b
  | exc {c : Addr} {u : Value} {b : Bool} (hE : ExcC K c) (h : PySem.W.kitOne K (.ref c) u = some b) : IsK K (.exc c) u b
def rIsX (K : PySem.W.Frag) : List V → Hp → VK → Prop := fun xs H Q => ∃ (a D : Addr) (c : V) (cv : Value) (b : Bool), xs = [.ref a, c] ∧ H a = some (ExH D a) ∧ ExcC K D ∧ ClsV c cv ∧ PySem.W.kitOne K (.ref D) cv = some b ∧ Q (.bl b) H
theorem call_isX : CallR X (.builtin "isinstance") (rIsX X.K) := by
  intro ps t τ G zs us R I rv ⟨a, D, c, cv, b, ez, ha, C, kc, e, q⟩
  subst ez
  obtain ⟨x1, x2, rfl, y1, y2⟩ := vals2 rv
  have e1 : x1 = .ref a := y1
  have e2 := kc.eq y2
  subst e1 e2
  obtain ⟨⟨oe, vs, hget, hz, hd⟩, _, _⟩ := I.hok a _ ha
  have at_ : PySem.W.InstAt t.heap a oe D none := by
    cases oe
    obtain ⟨h1, h2⟩ := hz
    dsimp only at h1 h2 hd
    subst h1 h2 hd
    exact ⟨hget, rfl, rfl, True.intro⟩
  exact PySem.W.kia_one (PySem.W.handS_kitx_exc C.hg C.hk C.hs C.hd C.ha C.hn C.ht C.hm) I.kIn at_ e (fun z => nomatch z)
    fun tk => ⟨.bl b, G, I.kept (t' := tk) fun _ _ z => z, rfl, q⟩
theorem je_isinst {cv : V} {u : Value} (hm : X.mg "isinstance" = none) (ha : JE X W a s (.ok d) s) (hc : PE X b (tC cv)) (kc : ClsV cv u) (h : IsK X.K d u β) (hg : Gl X "isinstance" := by rfl)
    (h1 : starEach (b :: []) X.env = (false, eval b X.env) :: starEach [] X.env := by rfl) (he : starEach (a :: [b]) X.env = (false, eval a X.env) :: starEach [b] X.env := by rfl) (hpl : (backTo pos (starEach [b] X.env)).any (·.1) = false := by rfl) :
    JE X W (.Call (.Name "isinstance" p) [a, b] [] pos) s (.ok (.bl β)) s :=
  je_of (pe_callB (call_isi.or call_isX) hg hm (by decide +kernel) (pa_cons pe_w (pa_cons hc pa_nil h1) he) (by decide) (by decide) he hpl) fun as B H σ ok Q q => Ok.one ha ok fun x B1 H1 e1 o1 r1 => by
    cases h with
    | non h => cases r1; exact .inl ⟨_, _, _, _, _, rfl, kc, .base .non, h, q _ B1 H1 e1 o1 (.bl _)⟩
    | int h => cases r1; exact .inl ⟨_, _, _, _, _, rfl, kc, .base (.int _), h, q _ B1 H1 e1 o1 (.bl _)⟩
    | bl h => cases r1; exact .inl ⟨_, _, _, _, _, rfl, kc, .base (.bl _), h, q _ B1 H1 e1 o1 (.bl _)⟩
    | str h => cases r1; exact .inl ⟨_, _, _, _, _, rfl, kc, .base (.str _), h, q _ B1 H1 e1 o1 (.bl _)⟩
    | lst h =>
      cases r1 with
      | lst h1 h2 => exact .inl ⟨_, _, _, _, _, rfl, kc, .base (.lst (o1.sm _ _ h1)), h, q _ B1 H1 e1 o1 (.bl _)⟩
    | exc hE h =>
      cases r1 with
      | exc h1 => exact .inr ⟨_, _, _, _, _, rfl, o1.sm _ _ h1, hE, kc, h, q _ B1 H1 e1 o1 (.bl _)⟩

/-! ### further built-ins -/
theorem ji_rev {m : Nat} (hm : X.mg "reversed" = none) (hr : X.mg "range" = none) (h : JE X WN a s (.ok (.int (m : Nat))) s1) (hn : m < 2 ^ 62) (hg : Gl X "reversed" := by rfl) (hg2 : Gl X "range" := by rfl) (h1 : starEach [a] X.env = (false, eval a X.env) :: starEach [] X.env := by rfl)
    (hs : starEach [Expr.Call (.Name "range" p) [a] [] pos] X.env = (false, eval (.Call (.Name "range" p) [a] [] pos) X.env) :: starEach [] X.env := by rfl) : JI X tg (.Call (.Name "reversed" p2) [.Call (.Name "range" p) [a] [] pos] [] pos') s ((List.range m).map fun i : Nat => D.int ((m - 1 - i : Nat) : Int)) s1 :=
  fun as B H σ ok R q => wI_of (pi_revR hg hm (prg_1 hg2 hr pe_w h1) hs) (Ok.one h ok fun v B1 H1 x1 o1 r1 => by
    cases r1
    refine ⟨m, rfl, by omega, by omega, by omega, by omega, q _ B1 H1 x1 o1 ?_⟩
    have e : ((m : Int) - 0).toNat = m := by omega
    rw [e]
    have len : ((List.range m).map fun i : Nat => D.int ((m - 1 - i : Nat) : Int)).length = m := by rw [List.length_map, List.length_range]
    refine ⟨fun i H hi _ => by rw [len] at hi; exact hi, fun H _ => by rw [len]; exact Nat.le_refl _, fun i H v H' hi _ y => ?_⟩
    rw [len] at hi
    obtain ⟨e1, e2⟩ := y
    subst e2
    refine ⟨e1, .int ((m - 1 - i : Nat) : Int), by rw [List.getElem?_map, List.getElem?_range hi]; rfl, ?_⟩
    have e3 : (0 : Int) + (m : Int) - 1 + (i : Int) * (-1) = ((m - 1 - i : Nat) : Int) := by omega
    rw [e3]
    exact .int _)
theorem jf_listR {m : Nat} (C : Cok X W k) (hm : X.mg "list" = none) (hr : X.mg "range" = none) (h : JE X WN a s (.ok (.int (m : Nat))) s1) (hn : m ≤ 16777216) (hg : Gl X "list" := by rfl) (hg2 : Gl X "range" := by rfl) (h1 : starEach [a] X.env = (false, eval a X.env) :: starEach [] X.env := by rfl)
    (hs : starEach [Expr.Call (.Name "range" p) [a] [] pos] X.env = (false, eval (.Call (.Name "range" p) [a] [] pos) X.env) :: starEach [] X.env := by rfl) : JF X (.Call (.Name "list" p2) [.Call (.Name "range" p) [a] [] pos] [] pos') s ((List.range m).map fun i : Nat => D.int (i : Nat)) s1 :=
  jf_of (pe_listRg C.calm hg hm (prg_1 hg2 hr pe_w h1) hs) fun as B H σ ok Q q => Ok.one h ok fun v B1 H1 x1 o1 r1 => by
    cases r1
    refine ⟨m, rfl, RgOk.of_le (by omega) (by omega) (by omega) (by omega), fun p hp => ?_⟩
    have e : rgV 0 (m : Int) = (List.range m).map fun i : Nat => V.int (i : Nat) := by
      unfold rgV
      have e1 : ((m : Int) - 0).toNat = m := by omega
      rw [e1]
      exact List.map_congr_left fun i _ => by rw [Int.zero_add]
    rw [e]
    have rr : ∀ l : List Nat, Reps X.K B1 (l.map fun i : Nat => V.int (i : Nat)) (l.map fun i : Nat => D.int (i : Nat)) := fun l => by
      induction l with
      | nil => exact .nil
      | cons x l ih => exact .cons (.int _) ih
    exact Ok.newF x1 o1 hp (rr _) q
/-- l.count(y), a list of ints -/
theorem je_countI {ns : List Int} {i : Int} (ha : JE X W a s (.ok (.lst (ns.map .int))) s1) (hb : JE X W b s1 (.ok (.int i)) s2) (hbase : attributeBase a "count" X.env (eval a X.env) = eval a X.env := by rfl)
    (hfew : ((backTo p (starEach (b :: []) X.env)).all (fun x => !x.1) && (backToKw p (keywordEach [] X.env)).all (fun x => x.1.isSome)
      && decide ((b :: []).length + ([] : List Keyword).length + (if ([] : List Keyword).isEmpty then 0 else 1) < 30)) = true := by rfl)
    (hline : (apos.endLine == p.line) = true := by rfl) (hs : starEach (b :: []) X.env = (false, eval b X.env) :: starEach [] X.env := by rfl) (hplain : (backTo p (starEach [] X.env)).any (·.1) = false := by rfl) :
    JE X W (.Call (.Attribute a "count" apos) [b] [] p) s (.ok (.int (ns.count i : Nat))) s2 :=
  je_of (pe_bm PySem.F.plainAttrs_list PySem.F.slot_list_count PySem.F.type_list_count mt_lcount pe_w (pa_cons pe_w pa_nil hs) hbase hfew hline hs hplain) fun as B H σ ok Q q => Ok.one ha ok fun v B1 H1 x1 o1 r1 => by
    cases r1 with
    | lst h1 h2 =>
      have z := h2.ints
      subst z
      refine ⟨.inl ⟨rfl, _, .inl (.inl (o1.sm _ _ h1))⟩, Ok.one hb o1 fun y B2 H2 x2 o2 r2 => ?_⟩
      cases r2
      exact ⟨_, ns, i, rfl, rfl, .inl (.inl (o2.sm _ _ (x2.b _ _ h1))), q _ B2 H2 (x1.trans x2) o2 (.int _)⟩
/-- l.index(y), a list of flat things -/
theorem je_index {j : Nat} {z : D} {n : Nat} {V : WX} (C : Cok X V k) (ha : JE X W a s (.ok (.lst xs)) s1) (hb : JE X W b s1 (.ok d) s2) (hn : n ≤ 58) (h1 : ∀ x ∈ xs, Sh n x) (h2 : Sh n d) (hj : xs[j]? = some z) (hz : D.eqv z d = true) (hno : ∀ m z', m < j → xs[m]? = some z' → D.eqv z' d = false)
    (hbase : attributeBase a "index" X.env (eval a X.env) = eval a X.env := by rfl)
    (hfew : ((backTo p (starEach (b :: []) X.env)).all (fun x => !x.1) && (backToKw p (keywordEach [] X.env)).all (fun x => x.1.isSome)
      && decide ((b :: []).length + ([] : List Keyword).length + (if ([] : List Keyword).isEmpty then 0 else 1) < 30)) = true := by rfl)
    (hline : (apos.endLine == p.line) = true := by rfl) (hs : starEach (b :: []) X.env = (false, eval b X.env) :: starEach [] X.env := by rfl) (hplain : (backTo p (starEach [] X.env)).any (·.1) = false := by rfl) :
    JE X W (.Call (.Attribute a "index" apos) [b] [] p) s (.ok (.int (j : Nat))) s2 :=
  je_of (pe_bm PySem.F.plainAttrs_list PySem.F.slot_list_index PySem.F.type_list_index (mt_indexD C.u65) pe_w (pa_cons pe_w pa_nil hs) hbase hfew hline hs hplain) fun as B H σ ok Q q => Ok.one ha ok fun v B1 H1 x1 o1 r1 => by
    have sl : Sh (n + 1) (.lst xs) := by simpa [Sh] using h1
    have dl := r1.dp (n + 1) sl
    rw [D.py] at dl
    cases r1 with
    | lst g1 g2 =>
      refine ⟨.inl ⟨rfl, _, .inl (.inl (o1.sm _ _ g1))⟩, Ok.one hb o1 fun y B2 H2 x2 o2 r2 => ?_⟩
      refine ⟨_, y, d.py, D.pys xs, j, z.py, rfl, rfl, dp_same (x2.b.trans o2.sm) dl, dp_same o2.sm (r2.dp n h2), ?_, shaped_of h2 (by omega), ?_, hz, fun m z' hm hz' => ?_, q _ B2 H2 (x1.trans x2) o2 (.int _)⟩
      · have z := shaped_of sl (by omega)
        rw [D.py] at z
        exact z
      · rw [pys_map, List.getElem?_map, hj]; rfl
      · rw [pys_map, List.getElem?_map] at hz'
        cases e : xs[m]? with
        | none => rw [e] at hz'; cases hz'
        | some w =>
          rw [e] at hz'
          cases hz'
          exact hno m w hm e
end
end DL
set_option Elab.async false
set_option linter.all false
set_option maxRecDepth 100000
set_option maxHeartbeats 4000000
set_option autoImplicit true
/-! DLi: count of truth values, the least and greatest of a tuple -/
namespace DL
open PySem PySem.Spec PyProof.Rows L2
def rCntV (K : PySem.W.Frag) : V → List V → Hp → VK → Prop := fun x xs H Q => ∃ (p : Addr) (ys : List V) (y : V), x = .ref p ∧ xs = [y] ∧ SqL K H p ys ∧ flatV y = true ∧ ys.all flatV = true ∧ Q (.int (ys.countP (fun z => eqV z y) : Nat)) H
theorem countP_eqU {x : V} : ∀ {xs : List V} {us : List Value}, Vals xs us → xs.all flatV = true → us.countP (eqU x) = xs.countP fun y => eqV y x
  | _, _, .nil, _ => rfl
  | _, _, .cons (a := v) (b := u) r t, f => by
    rw [List.all_cons, Bool.and_eq_true] at f
    rw [List.countP_cons, List.countP_cons, countP_eqU t f.2, eqU_of r f.1]
theorem mt_countV {X : Cx} : MtR X "list.count" (rCntV X.K) := by
  intro _ s _ H x xs v us Q I rx rxs ⟨p, ys, y, ex, exs, hs, fy, fa, q⟩
  subst ex exs
  cases rx
  obtain ⟨u, eu, ru⟩ := rxs.one
  subst eu
  obtain ⟨its, rv, ⟨⟨cls, dd, data, sl⟩, n, ho, c0, _, d0⟩, _⟩ := I.list hs
  simp only at c0 d0
  subst c0 d0
  refine call_meets PySem.F.slot_list_count ⟨_, ho, rfl⟩ PySem.F.entry_list_count
    (PySem.F.args_list_count_2 _ _) (SeqAt.list_countAt p its.toArray n dd sl u (eqU y)) ⟨ho, fun z hz => mem_eqAt ru fy rv fa z (by simpa using hz), ?_⟩
  have ec : its.toArray.toList.countP (eqU y) = ys.countP (fun z => eqV z y) := countP_eqU rv fa
  refine ⟨.int (ys.countP (fun z => eqV z y) : Nat), H, I.tok _, ⟨s.toks, ?_⟩, q⟩
  show Value.int ((its.toArray.toList.countP (eqU y) : Nat) : Int) s.toks = _
  rw [ec]
section
variable {X : Cx} {W : WX} {k : Nat} {e a b c tg iter elt : Expr} {es rest tgs ifs : List Expr} {s s' s1 s2 s3 : A} {d d' d1 d2 d3 da db dc : D} {xs ys : List D} {pos p2 p apos pos' : Pos}
theorem countB {β : Bool} : ∀ bs : List Bool, (bs.map V.bl).countP (fun z => eqV z (.bl β)) = bs.count β
  | [] => rfl
  | b :: bs => by
    rw [List.map_cons, List.countP_cons, countB bs, List.count_cons]
    cases b <;> cases β <;> rfl
theorem je_countB {bs : List Bool} {β : Bool} (ha : JE X W a s (.ok (.lst (bs.map .bl))) s1) (hb : JE X W b s1 (.ok (.bl β)) s2) (hbase : attributeBase a "count" X.env (eval a X.env) = eval a X.env := by rfl)
    (hfew : ((backTo p (starEach (b :: []) X.env)).all (fun x => !x.1) && (backToKw p (keywordEach [] X.env)).all (fun x => x.1.isSome)
      && decide ((b :: []).length + ([] : List Keyword).length + (if ([] : List Keyword).isEmpty then 0 else 1) < 30)) = true := by rfl)
    (hline : (apos.endLine == p.line) = true := by rfl) (hs : starEach (b :: []) X.env = (false, eval b X.env) :: starEach [] X.env := by rfl) (hplain : (backTo p (starEach [] X.env)).any (·.1) = false := by rfl) :
    JE X W (.Call (.Attribute a "count" apos) [b] [] p) s (.ok (.int (bs.count β : Nat))) s2 :=
  je_of (pe_bm PySem.F.plainAttrs_list PySem.F.slot_list_count PySem.F.type_list_count mt_countV pe_w (pa_cons pe_w pa_nil hs) hbase hfew hline hs hplain) fun as B H σ ok Q q => Ok.one ha ok fun v B1 H1 x1 o1 r1 => by
    cases r1 with
    | lst h1 h2 =>
      have z := h2.bls
      subst z
      refine ⟨.inl ⟨rfl, _, .inl (.inl (o1.sm _ _ h1))⟩, Ok.one hb o1 fun y B2 H2 x2 o2 r2 => ?_⟩
      cases r2
      refine ⟨_, _, _, rfl, rfl, .inl (.inl (o2.sm _ _ (x2.b _ _ h1))), rfl, by simp [flatV], ?_⟩
      rw [countB]
      exact q _ B2 H2 (x1.trans x2) o2 (.int _)
theorem alike_ints (n : Int) (ns : List Int) : PySem.W.AlikeAll (PyData.int n :: ns.map .int) := by
  have h : ∀ x ∈ PyData.int n :: ns.map .int, ∃ i, x = .int i := fun x hx => by
    rcases List.mem_cons.mp hx with rfl | hx
    · exact ⟨_, rfl⟩
    · obtain ⟨i, _, rfl⟩ := List.mem_map.mp hx
      exact ⟨i, rfl⟩
  refine ⟨fun x hx y hy => ?_, fun x hx z => ?_⟩
  · obtain ⟨i, rfl⟩ := h x hx
    obtain ⟨j, rfl⟩ := h y hy
    rfl
  · obtain ⟨i, rfl⟩ := h x hx
    cases z
theorem depth_ints : ∀ ns : List Int, PyData.depthAll (ns.map .int) = 0
  | [] => rfl
  | n :: ns => by rw [List.map_cons, PyData.depthAll, depth_ints ns]; rfl
theorem dp_ints {K : PySem.W.Frag} {H : Hp} : ∀ ns : List Int, DpAll K H (ns.map V.int) (ns.map .int)
  | [] => .nil
  | n :: ns => .cons (.int n) (dp_ints ns)
/-- the least, the greatest of a tuple of ints -/
def rMinT (K : PySem.W.Frag) : List V → Hp → VK → Prop := fun vs H Q => ∃ (a : Addr) (n : Int) (ns : List Int), vs = [V.ref a] ∧ SqT K H a ((n :: ns).map V.int) ∧ Q (.int (ns.foldl min n)) H
def rMaxT (K : PySem.W.Frag) : List V → Hp → VK → Prop := fun vs H Q => ∃ (a : Addr) (n : Int) (ns : List Int), vs = [V.ref a] ∧ SqT K H a ((n :: ns).map V.int) ∧ Q (.int (ns.foldl max n)) H
theorem cr_minT (hc : X.calm = true) (hu : X.A.units + 64 < cLine) : CallR X (.builtin "min") (rMinT X.K) := by
  intro _ s σ H vs us Q I r ⟨a, n, ns, ev, hs, q⟩
  subst ev
  obtain ⟨its, rv, hl, _⟩ := I.tuple hs
  rw [Vals.ref1 r]
  obtain ⟨as, hr⟩ := Dp.readsAll I _ _ _ (dp_ints (K := X.K) (H := H) (n :: ns)) rv
  refine PySem.W.min_tuple_data (I.ok.hd hc) hl hr (alike_ints n ns) (by
    rw [show (PyData.int n :: ns.map .int) = (n :: ns).map PyData.int from rfl, depth_ints]
    omega) fun i v h' tk bs hv hread k => ?_
  rw [PySem.W.minD_ints] at hread
  cases hread with
  | int i t => exact ⟨.int _, H, I.kept k, ⟨_, rfl⟩, q⟩
theorem cr_maxT (hc : X.calm = true) (hu : X.A.units + 64 < cLine) : CallR X (.builtin "max") (rMaxT X.K) := by
  intro _ s σ H vs us Q I r ⟨a, n, ns, ev, hs, q⟩
  subst ev
  obtain ⟨its, rv, hl, _⟩ := I.tuple hs
  rw [Vals.ref1 r]
  obtain ⟨as, hr⟩ := Dp.readsAll I _ _ _ (dp_ints (K := X.K) (H := H) (n :: ns)) rv
  refine PySem.W.max_tuple_data (I.ok.hd hc) hl hr (alike_ints n ns) (by
    rw [show (PyData.int n :: ns.map .int) = (n :: ns).map PyData.int from rfl, depth_ints]
    omega) fun i v h' tk bs hv hread k => ?_
  rw [PySem.W.maxD_ints] at hread
  cases hread with
  | int i t => exact ⟨.int _, H, I.kept k, ⟨_, rfl⟩, q⟩
theorem je_minT {n : Int} {ns : List Int} {V : WX} (C : Cok X V k) (hm : X.mg "min" = none) (ha : JE X W a s (.ok (.tup ((n :: ns).map .int))) s1) (hg : Gl X "min" := by rfl)
    (he : starEach (a :: []) X.env = (false, eval a X.env) :: starEach [] X.env := by rfl) (hpl : (backTo pos (starEach [] X.env)).any (·.1) = false := by rfl) : JE X W (.Call (.Name "min" p) [a] [] pos) s (.ok (.int (ns.foldl min n))) s1 :=
  je_call1 (cr_minT C.calm C.hr.units) ha (fun as B H B1 H1 σ v Q e1 o1 r1 q => by
      cases r1 with
      | tup g1 g2 =>
        have z := g2.ints
        subst z
        exact ⟨_, n, ns, rfl, same_t o1.sm g1, q _ B1 H1 e1 o1 (.int _)⟩) hm (by decide +kernel) hg (by decide) (by decide) he hpl
theorem je_maxT {n : Int} {ns : List Int} {V : WX} (C : Cok X V k) (hm : X.mg "max" = none) (ha : JE X W a s (.ok (.tup ((n :: ns).map .int))) s1) (hg : Gl X "max" := by rfl)
    (he : starEach (a :: []) X.env = (false, eval a X.env) :: starEach [] X.env := by rfl) (hpl : (backTo pos (starEach [] X.env)).any (·.1) = false := by rfl) : JE X W (.Call (.Name "max" p) [a] [] pos) s (.ok (.int (ns.foldl max n))) s1 :=
  je_call1 (cr_maxT C.calm C.hr.units) ha (fun as B H B1 H1 σ v Q e1 o1 r1 q => by
      cases r1 with
      | tup g1 g2 =>
        have z := g2.ints
        subst z
        exact ⟨_, n, ns, rfl, same_t o1.sm g1, q _ B1 H1 e1 o1 (.int _)⟩) hm (by decide +kernel) hg (by decide) (by decide) he hpl
end
end DL
set_option Elab.async false
set_option linter.all false
set_option maxRecDepth 100000
set_option maxHeartbeats 4000000
set_option autoImplicit true
/-! DLj: loops that fold -/
namespace DL
open PySem PySem.Spec PyProof.Rows L2
section
variable {X : Cx} {W : WX} {k : Nat} {e a b c tg iter elt : Expr} {es rest tgs ifs : List Expr} {st : Stmt} {sts body orelse : List Stmt} {s s' s1 s2 s3 : A} {P : Po} {d d' d1 d2 d3 da db dc : D} {r : Res} {ds : List D} {xs ys : List D} {pos p2 p apos pos' px py pz np : Pos} {x y z n : Str} {β β1 β2 : Bool} {op : CmpOp} {l : List Sl}
/-- s tells no less than t -/
def Le (s t : A) : Prop := s.cl = t.cl ∧ Les s.sl t.sl
theorem Le.refl (s : A) : Le s s := ⟨rfl, Les.refl _⟩
theorem jb_le {t : A} (h : Le s t) (k : JB X W sts t P) : JB X W sts s P := fun as B H σ ok Dn f => by
  have o := ok.less h.2
  rw [h.1] at o
  exact k as B H σ o Dn f
/-- the end of a turn, or of a branch -/
theorem jb_fin {t : A} (hP : P.nx t) (h1 : s.cl = t.cl := by rfl) (h : Les s.sl t.sl := by (repeat (first | exact Les.nil | apply Les.eq | apply Les.u))) : JB X W [] s P := jb_le ⟨h1, h⟩ (jb_nil hP)
theorem ixN_nat {n i : Nat} (h : i < n) : ixN n (i : Nat) = some i := by
  unfold ixN
  rw [if_pos (by omega), if_pos (by omega)]
  simp
/-- l[e2] = e, the place a number -/
theorem js_setN (i j : Nat) {cl : List Cl} {m : Nat} (he : JE X WN e s (.ok d) s1) (hb : JE X WN b s1 (.ok (.int (m : Nat))) s2) (hix : m < xs.length) (hP : P.nx ⟨l, cl⟩) (hsl : s2.sl = l := by (first | (dsimp only [List.set, List.length_cons, List.length_nil, List.cons_append, List.nil_append, Nat.reduceAdd]; done) | (dsimp only [List.set, List.length_cons, List.length_nil, List.cons_append, List.nil_append, Nat.reduceAdd]; exact rfl) | exact rfl)) (hi : s1.sl[i]? = some (.c j) := by rfl) (hc : s2.cl[j]? = some (.lst xs) := by rfl) (hcl : s2.cl.set j (.lst (xs.set m d)) = cl := by (first | (dsimp only [List.set, List.length_cons, List.length_nil, List.cons_append, List.nil_append, Nat.reduceAdd]; done) | (dsimp only [List.set, List.length_cons, List.length_nil, List.cons_append, List.nil_append, Nat.reduceAdd]; exact rfl) | exact rfl)) (hN : X.N[i]? = some x := by rfl)
    (hv : Vis X.env.scope x := by first | exact Or.inl rfl | exact Or.inr (Or.inl rfl) | exact Or.inr (Or.inr rfl)) (hd1 : (x == ("__debug__" : Str)) = false := by decide) (hd2 : (x == ("__classdict__" : Str)) = false := by decide)
    (ha : ∀ v, assign (.Subscript (.Name x p2) b p) X.env v = (do
      let ov ← holding [v] (eval (.Name x p2) X.env)
      let iv ← holding [v, ov] (eval b X.env)
      standAt p; holding [v, ov, iv] (setItem ov iv v); release [v, ov, iv] []) := by intro _; rfl)
    (hs : swapsWithSole [.Subscript (.Name x p2) b p] e pos.line X.env = pure false := by rfl) (hw : swappedStores [.Subscript (.Name x p2) b p] e X.env = pure none := by rfl)
    (h1 : (assignEach [.Subscript (.Name x p2) b p] X.env).map (·.2) = [assign (.Subscript (.Name x p2) b p) X.env] := by rfl) :
    JS X W (.Assign [.Subscript (.Name x p2) b p] e pos) s P := js_setix i j he hb (ixN_nat hix) hP hsl hi hc hcl hN hv hd1 hd2 ha hs hw h1
theorem flat_one {α : Type} (d : α) : ∀ k : Nat, (List.replicate k [d]).flatten = List.replicate k d
  | 0 => rfl
  | k + 1 => by rw [List.replicate_succ, List.flatten_cons, flat_one d k, List.replicate_succ]; rfl
theorem jf_rep1 {α : Type} (f : α → D) (a0 : α) (m : Nat) (ha : JE X WN a s (.ok (.lst [f a0])) s1) (hb : JE X WN b s1 (.ok (.int (m : Nat))) s2) (hn : m ≤ 16777216) : JF X (.BinOp a .Mult b pos) s ((List.replicate m a0).map f) s2 := by
  have h := jf_rep (pos := pos) ha hb (by omega) (by rw [sizeLine_eq, List.length_singleton]; omega)
  rw [Int.toNat_natCast, flat_one] at h
  rw [List.map_replicate]
  exact h
theorem js_le {t : A} (h : Le s t) (k : JS X W st t P) : JS X W st s P := fun as B H σ ok Dn f => by
  have o := ok.less h.2
  rw [h.1] at o
  exact k as B H σ o Dn f
/-- for: the state is S of a fold, Q holds of the fold so far -/
theorem js_fold {α γ : Type} (lst : List α) (f : γ → α → γ) (b0 : γ) (S : γ → A) (Q : Nat → γ → Prop) {enc : α → D} (C : Cok X W k) (hi : JI X tg iter (S b0) (lst.map enc) (S b0)) (q0 : Q 0 b0)
    (hs : ∀ i a b, (ha : lst[i]? = some a) → b = (lst.take i).foldl f b0 → Q i b → JG X tg (enc a) (S b) fun s2 => JB X W body s2 { P with nx := fun s3 => s3 = S (f b a) ∧ Q (i + 1) (f b a), ct := fun s3 => s3 = S (f b a) ∧ Q (i + 1) (f b a), bk := P.nx })
    (hd : Q lst.length (lst.foldl f b0) → P.nx (S (lst.foldl f b0))) (h1 : s.cl = (S b0).cl := by rfl) (h2 : Les s.sl (S b0).sl := by (repeat (first | exact Les.nil | apply Les.eq | apply Les.u)))
    (hf : ∀ x, foldedSetIterable iter X.env x = pure x := by intro _; rfl) : JS X W (.For tg iter body [] pos) s P := by
  refine js_le ⟨h1, h2⟩ (js_for (fun i s' => s' = S ((lst.take i).foldl f b0) ∧ Q i ((lst.take i).foldl f b0)) C hi ⟨rfl, q0⟩ (fun i d s' hd' h => ?_) (fun s' h => ?_) hf)
  · obtain ⟨rfl, hq⟩ := h
    rw [List.getElem?_map] at hd'
    cases e : lst[i]? with
    | none => rw [e] at hd'; cases hd'
    | some a =>
      rw [e] at hd'
      have hd' : enc a = d := Option.some.inj hd'
      subst hd'
      have g := hs i a _ e rfl hq
      have e2 : (lst.take (i + 1)).foldl f b0 = f ((lst.take i).foldl f b0) a := by
        rw [List.take_add_one, e, List.foldl_append]
        rfl
      rw [e2]
      exact g
  · obtain ⟨rfl, hq⟩ := h
    rw [List.length_map, List.take_length] at hq ⊢
    exact hd hq
end
end DL
set_option Elab.async false
set_option linter.all false
set_option maxRecDepth 100000
set_option maxHeartbeats 4000000
set_option autoImplicit true
/-! DLk: dicts with tuples of numbers as keys; calls that hand cells -/
namespace DL
open PySem PySem.Spec PyProof.Rows L2
/-! ### what a dict holds -/
def dval (kvs : List (List Key × D)) (k : List Key) : Option D := (kvs.find? fun kv => decide (kv.1 = k)).map (·.2)
def dput (kvs : List (List Key × D)) (k : List Key) (d : D) : List (List Key × D) :=
  if (kvs.any fun kv => decide (kv.1 = k)) = true then kvs.map (fun kv => if kv.1 = k then (kv.1, d) else kv) else kvs ++ [(k, d)]
def nkey (ns : List Int) : List Key := ns.map .inl
theorem nkey_kV (ns : List Int) : (nkey ns).map kV = ns.map V.int := by unfold nkey; rw [List.map_map]; rfl
section
variable {K : PySem.W.Frag} {B : Hp}
theorem dval_rep {k : List Key} : ∀ {kvs : List (List Key × D)} {us : List (List Key × V)}, us.map (·.1) = kvs.map (·.1) → Reps K B (us.map (·.2)) (kvs.map (·.2)) →
    match dval kvs k with
    | none => valV us k = none
    | some d => ∃ v, valV us k = some v ∧ Rep K B v d
  | [], [], _, _ => rfl
  | [], _ :: _, h, _ => by simp at h
  | _ :: _, [], h, _ => by simp at h
  | (k1, d1) :: kvs, (k2, v2) :: us, h, r => by
    rw [List.map_cons, List.map_cons] at h r
    injection h with h1 h2
    cases r with
    | cons r1 r2 =>
      have ih := dval_rep (k := k) h2 r2
      have h1' : k2 = k1 := h1
      subst h1'
      by_cases e : k2 = k
      · have e1 : dval ((k2, d1) :: kvs) k = some d1 := by simp [dval, List.find?_cons, e]
        rw [e1, valV_pos e]
        exact ⟨_, rfl, r1⟩
      · have e1 : dval ((k2, d1) :: kvs) k = dval kvs k := by simp [dval, List.find?_cons, e]
        rw [e1, valV_neg e]
        exact ih
theorem keys_any {κ α β : Type} [DecidableEq κ] (k : κ) : ∀ {l : List (κ × α)} {m : List (κ × β)}, l.map (·.1) = m.map (·.1) → (l.any fun kv => decide (kv.1 = k)) = m.any fun kv => decide (kv.1 = k)
  | [], [], _ => rfl
  | [], _ :: _, h => by simp at h
  | _ :: _, [], h => by simp at h
  | p :: l, q :: m, h => by
    rw [List.map_cons, List.map_cons] at h
    injection h with h1 h2
    rw [List.any_cons, List.any_cons, keys_any k h2, h1]
theorem keys_put {κ α β : Type} [DecidableEq κ] (k : κ) (x : α) (y : β) : ∀ {l : List (κ × α)} {m : List (κ × β)}, l.map (·.1) = m.map (·.1) → (l.map fun kv => if kv.1 = k then (kv.1, x) else kv).map (·.1) = (m.map fun kv => if kv.1 = k then (kv.1, y) else kv).map (·.1)
  | [], [], _ => rfl
  | [], _ :: _, h => by simp at h
  | _ :: _, [], h => by simp at h
  | p :: l, q :: m, h => by
    rw [List.map_cons, List.map_cons] at h
    injection h with h1 h2
    rw [List.map_cons, List.map_cons, List.map_cons, List.map_cons, keys_put k x y h2]
    congr 1
    by_cases e : p.1 = k
    · rw [if_pos e, if_pos (h1 ▸ e)]; exact h1
    · rw [if_neg e, if_neg (h1 ▸ e)]; exact h1
theorem vals_put {k : List Key} {v : V} {d : D} (r0 : Rep K B v d) : ∀ {kvs : List (List Key × D)} {us : List (List Key × V)}, us.map (·.1) = kvs.map (·.1) → Reps K B (us.map (·.2)) (kvs.map (·.2)) →
    Reps K B ((us.map fun kv => if kv.1 = k then (kv.1, v) else kv).map (·.2)) ((kvs.map fun kv => if kv.1 = k then (kv.1, d) else kv).map (·.2))
  | [], [], _, _ => .nil
  | [], _ :: _, h, _ => by simp at h
  | _ :: _, [], h, _ => by simp at h
  | p :: kvs, q :: us, h, r => by
    rw [List.map_cons, List.map_cons] at h r
    injection h with h1 h2
    cases r with
    | cons r1 r2 =>
      have ih := vals_put (k := k) r0 h2 r2
      rw [List.map_cons, List.map_cons, List.map_cons, List.map_cons]
      refine .cons ?_ ih
      by_cases e : q.1 = k
      · rw [if_pos e, if_pos (h1 ▸ e)]; exact r0
      · rw [if_neg e, if_neg (h1 ▸ e)]; exact r1
theorem put_keys {k : List Key} {v : V} {d : D} {kvs : List (List Key × D)} {us : List (List Key × V)} (h : us.map (·.1) = kvs.map (·.1)) : (putK us k v).map (·.1) = (dput kvs k d).map (·.1) := by
  unfold putK dput
  rw [keys_any k h]
  split
  · exact keys_put k v d h
  · rw [List.map_append, List.map_append, h]; rfl
theorem put_vals {k : List Key} {v : V} {d : D} (r0 : Rep K B v d) {kvs : List (List Key × D)} {us : List (List Key × V)} (h : us.map (·.1) = kvs.map (·.1)) (r : Reps K B (us.map (·.2)) (kvs.map (·.2))) : Reps K B ((putK us k v).map (·.2)) ((dput kvs k d).map (·.2)) := by
  unfold putK dput
  rw [keys_any k h]
  split
  · exact vals_put r0 h r
  · rw [List.map_append, List.map_append]; exact r.append (.cons r0 .nil)
end
section
variable {X : Cx} {W : WX} {k : Nat} {e a b c : Expr} {es : List Expr} {s s' s1 s2 s3 : A} {P : Po} {d da db : D} {r : Res} {ds : List D} {xs ys : List D} {sls : List Sl} {pos p2 p apos pos' py : Pos} {x y : Str} {β : Bool} {l : List Sl} {cl : List Cl} {ns : List Int} {kvs : List (List Key × D)} {q : Nat}
theorem Cok.u1 (C : Cok X W k) : X.A.units + 1 < cLine := by have := C.hr.un; omega
/-- x = {}: a cell -/
theorem js_newD (i : Nat) (C : Cok X W k) (hP : P.nx ⟨l, cl⟩) (hl : s.sl.set i (.c s.cl.length) = l := by (first | (dsimp only [List.set, List.length_cons, List.length_nil, List.cons_append, List.nil_append, Nat.reduceAdd]; done) | (dsimp only [List.set, List.length_cons, List.length_nil, List.cons_append, List.nil_append, Nat.reduceAdd]; exact rfl) | exact rfl)) (hcl : s.cl ++ [.dic []] = cl := by (first | (dsimp only [List.set, List.length_cons, List.length_nil, List.cons_append, List.nil_append, Nat.reduceAdd]; done) | (dsimp only [List.set, List.length_cons, List.length_nil, List.cons_append, List.nil_append, Nat.reduceAdd]; exact rfl) | exact rfl)) (hi : X.N[i]? = some x := by rfl) (hx : Loc X.env.scope x := by first | exact .inl rfl | exact .inr rfl) (hn : i < s.sl.length := by exact of_decide_eq_true rfl) (hs : swapsWith (.Dict [] [] p) (some (.Name x pos')) pos.line X.env = pure false := by rfl) (hf : X.fn x = true ∨ X.env.scope.names.lookup x = some .local := by first | exact .inl rfl | exact .inr rfl) :
    JS X W (.Assign [.Name x pos'] (.Dict [] [] p) pos) s P := js_of (ps_set C.nd hi hx pe_dnewT hs hf) fun as B H σ ok Dn f => fun p hp => by
  obtain ⟨o1, x1⟩ := ok.cell (o := .dT []) (c := .dic []) hp ⟨[], upd_same, rfl, .nil⟩
  have hl1 := ok.cs.1
  have o2 := o1.store (i := i) (o := some (.ref p)) (x := .c s.cl.length) hn ⟨p, by rw [← hl1, List.getElem?_append_right (Nat.le_refl _)]; simp, rfl⟩
  dsimp only at o2
  rw [hl] at o2
  rw [← hcl] at hP
  exact f.nx _ _ _ _ _ x1 o2 hP
/-- the key of a dict, made for one look -/
theorem key_new {as : List Addr} {B H : Hp} {σ : L2.St} {vs : List V} {K : PySem.W.Frag} {s : A} (ok : Ok K as B H σ s) (r : Reps K B vs (ns.map .int)) {b : Addr} (hb : H b = none) : Ok K as (upd B b (.tup vs)) (upd H b (.tup vs)) σ s ∧ Ext as B H as (upd B b (.tup vs)) (upd H b (.tup vs)) ∧ (upd H b (.tup vs)) b = some (.tup ((nkey ns).map kV)) := by
  obtain ⟨o1, x1⟩ := ok.new (o := .tup vs) hb
  refine ⟨o1, x1, ?_⟩
  rw [upd_same, nkey_kV, r.ints]
/-- (..) not in d, (..) in d -/
theorem jt_dnin (i : Nat) {j q : Nat} (C : Cok X W k) (h : JD X es s (ns.map .int) s) (hlen : ns.length ≤ sizeLine := by exact Nat.le_of_ble_eq_true rfl) (hi : s.sl[i]? = some (.c j) := by rfl) (hc : s.cl[j]? = some (.dic kvs) := by rfl) (hN : X.N[i]? = some x := by rfl)
    (hv : Vis X.env.scope x := by first | exact Or.inl rfl | exact Or.inr (Or.inl rfl) | exact Or.inr (Or.inr rfl)) (hd1 : (x == ("__debug__" : Str)) = false := by decide) (hd2 : (x == ("__classdict__" : Str)) = false := by decide)
    (hm : behindInMarks .NotIn (.Name x p) = false := by first | exact nobehind _ (by decide) (by decide) | rfl) : JT X (.Compare (.Tuple es q p2) [.NotIn] [.Name x p] pos) s (!(dval kvs (nkey ns)).isSome) :=
  jt_of (pt_cmp (pc_dnotin C.u1 (pe_tup pa_w) (pe_var hN hv hd1 hd2)) hm) fun as B H σ ok Q q => h as B H σ ok _ fun vs B1 H1 e1 o1 r => by
    have ln := r.length
    rw [List.length_map] at ln
    refine ⟨by omega, fun b hb => ?_⟩
    obtain ⟨o2, e2, hkey⟩ := key_new o1 r hb
    obtain ⟨a, v1, ha⟩ := cell_of o2 hi
    obtain ⟨us, hu, hks, hvs⟩ := o2.cs.2 j a _ ha hc
    refine ⟨.ref a, v1, a, valV us (nkey ns), rfl, .t hu hkey, _, rfl, ?_⟩
    have z := dval_rep (k := nkey ns) hks hvs
    have ez : (dval kvs (nkey ns)).isSome = (valV us (nkey ns)).isSome := by
      cases e : dval kvs (nkey ns) with
      | none => rw [e] at z; rw [show valV us (nkey ns) = none from z]; rfl
      | some d => rw [e] at z; obtain ⟨v, z, _⟩ := z; rw [z]; rfl
    rw [ez] at q
    exact q _ _ (e1.trans e2) o2
/-- d[(..)] -/
theorem je_dget (i : Nat) {j q : Nat} (C : Cok X W k) (h : JD X es s (ns.map .int) s1) (hg : dval kvs (nkey ns) = some d) (hlen : ns.length ≤ sizeLine := by exact Nat.le_of_ble_eq_true rfl) (hi : s.sl[i]? = some (.c j) := by rfl) (hc : s1.cl[j]? = some (.dic kvs) := by rfl) (hN : X.N[i]? = some x := by rfl)
    (hv : Vis X.env.scope x := by first | exact Or.inl rfl | exact Or.inr (Or.inl rfl) | exact Or.inr (Or.inr rfl)) (hd1 : (x == ("__debug__" : Str)) = false := by decide) (hd2 : (x == ("__classdict__" : Str)) = false := by decide)
    (hno : NoSl (.Tuple es q p2) := by first | exact fun _ _ => rfl | (intro _ _; rfl)) : JE X W (.Subscript (.Name x p) (.Tuple es q p2) pos) s (.ok d) s1 :=
  je_of (pe_dget C.u1 (pe_var hN hv hd1 hd2) (pe_tup pa_w) hno) fun as B H σ ok Q q => by
    obtain ⟨a, v1, ha⟩ := cell_of ok hi
    refine ⟨.ref a, v1, h as B H σ ok _ fun vs B1 H1 e1 o1 r => ?_⟩
    have ln := r.length
    rw [List.length_map] at ln
    refine ⟨by omega, fun b hb => ?_⟩
    obtain ⟨o2, e2, hkey⟩ := key_new o1 r hb
    obtain ⟨us, hu, hks, hvs⟩ := o2.cs.2 j a _ ha hc
    have z := dval_rep (k := nkey ns) hks hvs
    rw [hg] at z
    obtain ⟨v, z, rv⟩ := z
    exact ⟨a, v, rfl, by rw [← z]; exact .t hu hkey, q v _ _ (e1.trans e2) o2 rv⟩
/-- d[(..)] = e -/
theorem js_dput (i j : Nat) {q : Nat} (C : Cok X W k) (he : JE X WN e s (.ok d) s1) (h : JD X es s1 (ns.map .int) s2) (hm : kvs.length < sizeLine) (hP : P.nx ⟨l, cl⟩) (hsl : s2.sl = l := by (first | (dsimp only [List.set, List.length_cons, List.length_nil, List.cons_append, List.nil_append, Nat.reduceAdd]; done) | (dsimp only [List.set, List.length_cons, List.length_nil, List.cons_append, List.nil_append, Nat.reduceAdd]; exact rfl) | exact rfl))
    (hi : s1.sl[i]? = some (.c j) := by rfl) (hc : s2.cl[j]? = some (.dic kvs) := by rfl) (hcl : s2.cl.set j (.dic (dput kvs (nkey ns) d)) = cl := by (first | (dsimp only [List.set, List.length_cons, List.length_nil, List.cons_append, List.nil_append, Nat.reduceAdd]; done) | (dsimp only [List.set, List.length_cons, List.length_nil, List.cons_append, List.nil_append, Nat.reduceAdd]; exact rfl) | exact rfl)) (hlen : ns.length ≤ sizeLine := by exact Nat.le_of_ble_eq_true rfl) (hN : X.N[i]? = some x := by rfl)
    (hv : Vis X.env.scope x := by first | exact Or.inl rfl | exact Or.inr (Or.inl rfl) | exact Or.inr (Or.inr rfl)) (hd1 : (x == ("__debug__" : Str)) = false := by decide) (hd2 : (x == ("__classdict__" : Str)) = false := by decide)
    (hs : swapsWith e (some (.Subscript (.Name x p) (.Tuple es q p2) pos')) pos.line X.env = pure false := by rfl) : JS X W (.Assign [.Subscript (.Name x p) (.Tuple es q p2) pos'] e pos) s P :=
  js_of (ps_dput C.u1 (pe_var hN hv hd1 hd2) (pe_tup pa_w) pe_w hs) fun as B H σ ok Dn f => Ok.one he ok fun v B1 H1 x1 o1 r1 => by
    obtain ⟨a, v1, ha⟩ := cell_of o1 hi
    refine ⟨.ref a, v1, h as B1 H1 σ o1 _ fun vs B2 H2 x2 o2 r => ?_⟩
    have ln := r.length
    rw [List.length_map] at ln
    refine ⟨by omega, fun b hb => ?_⟩
    obtain ⟨o3, x3, hkey⟩ := key_new o2 r hb
    obtain ⟨us, hu, hks, hvs⟩ := o3.cs.2 j a _ ha hc
    have hl2 : us.length = kvs.length := by have := congrArg List.length hks; rwa [List.length_map, List.length_map] at this
    obtain ⟨o4, x4⟩ := o3.wr (o := .dT (putK us (nkey ns) v)) (c' := .dic (dput kvs (nkey ns) d)) ha hc True.intro ⟨_, upd_same, put_keys hks, put_vals ((r1.mono x2.b).mono x3.b) hks hvs⟩
    rw [hcl] at o4
    rw [← hsl] at hP
    exact ⟨a, _, rfl, .t hu hkey (by omega), f.nx as _ _ σ _ (((x1.trans x2).trans x3).trans x4) o4 hP⟩
/-! ### arguments that are cells -/
theorem ArgsOk.mono {K : PySem.W.Frag} {B B' : Hp} {as : List Addr} (e : Same B B') : ∀ {vs : List V} {xs : List Sl}, ArgsOk K B as vs xs → ArgsOk K B' as vs xs
  | _, _, .nil => .nil
  | _, _, .cons h t => .cons (h.mono e ⟨[], by simp⟩) (t.mono e)
theorem ja_nil : JA X [] s [] s := fun as B H σ ok Q q => wA_of pa_nil (q [] B H (Ext.refl ..) ok .nil)
theorem ja_val (ha : JE X WN e s (.ok d) s1) (hr : JA X es s1 sls s2) (hs : starEach (e :: es) X.env = (false, eval e X.env) :: starEach es X.env := by rfl) : JA X (e :: es) s (.d d :: sls) s2 :=
  fun as B H σ ok Q q => wA_of (pa_cons pe_w pa_w hs) (Ok.one ha ok fun v B1 H1 e1 o1 r => hr as B1 H1 σ o1 _ fun vs B2 H2 e2 o2 rr => q _ B2 H2 (e1.trans e2) o2 (.cons ⟨v, rfl, r.mono e2.b⟩ rr))
theorem ja_cell (i : Nat) {j : Nat} (hr : JA X es s sls s2) (hi : s.sl[i]? = some (.c j) := by rfl) (hN : X.N[i]? = some x := by rfl) (hv : Vis X.env.scope x := by first | exact Or.inl rfl | exact Or.inr (Or.inl rfl) | exact Or.inr (Or.inr rfl)) (hd1 : (x == ("__debug__" : Str)) = false := by decide) (hd2 : (x == ("__classdict__" : Str)) = false := by decide)
    (hs : starEach (.Name x p :: es) X.env = (false, eval (.Name x p) X.env) :: starEach es X.env := by rfl) : JA X (.Name x p :: es) s (.c j :: sls) s2 :=
  fun as B H σ ok Q q => wA_of (pa_cons (pe_var hN hv hd1 hd2) pa_w hs) (by
    obtain ⟨a, v1, ha⟩ := cell_of ok hi
    exact ⟨.ref a, v1, hr as B H σ ok _ fun vs B2 H2 e2 o2 rr => q _ B2 H2 e2 o2 (.cons ⟨a, ha, rfl⟩ rr)⟩)
/-- a cell speaks of cells below m alone -/
def Sl.below (m : Nat) : Sl → Bool
  | .c j => decide (j < m)
  | _ => true
def Cl.below (m : Nat) : Cl → Bool
  | .ins _ fs => fs.all fun f => f.2.below m
  | _ => true
theorem SlOk.cut {K : PySem.W.Frag} {B : Hp} {as as' : List Addr} {m : Nat} {o : Option V} {y : Sl} (h : SlOk K B as o y) (hb : y.below m = true) (e : ∀ j, j < m → as'[j]? = as[j]?) : SlOk K B as' o y := by
  cases y with
  | u => exact True.intro
  | d z => exact h
  | c j =>
    obtain ⟨a, h1, h2⟩ := h
    exact ⟨a, by rw [e j (of_decide_eq_true hb)]; exact h1, h2⟩
theorem ClOk.cut {K : PySem.W.Frag} {B H : Hp} {as as' : List Addr} {m : Nat} {a : Addr} {c : Cl} (h : ClOk K B as H a c) (hb : c.below m = true) (e : ∀ j, j < m → as'[j]? = as[j]?) : ClOk K B as' H a c := by
  cases c with
  | lst ds => exact h
  | dic kvs => exact h
  | dead => exact True.intro
  | ins C fs =>
    obtain ⟨dx, fs', h1, h2, h3⟩ := h
    refine ⟨dx, fs', h1, h2, fun i z hz => (h3 i z hz).cut ?_ e⟩
    rw [List.getElem?_map] at hz
    cases q : fs[i]? with
    | none => rw [q] at hz; cases hz
    | some f =>
      rw [q] at hz
      cases hz
      exact List.all_eq_true.mp hb f (List.mem_of_getElem? q)
/-! ### defs that are handed cells -/
/-- called with the arguments sls, the first m cells being cl, it comes to r and leaves them as cl' -/
def spC (K : PySem.W.Frag) (m : Nat) (pre : List Sl → List Cl → Res → List Cl → Prop) : Sp := fun vs H Q E => ∃ (as : List Addr) (B : Hp) (sls : List Sl) (cl : List Cl) (r : Res) (cl' : List Cl), Ok K as B H (vs.map some) ⟨sls, cl⟩ ∧ cl.length = m ∧ pre sls cl r cl' ∧ match r with
  | .ok d => ∀ v as' B' H' c, Ext as B H as' B' H' → Ok K as' B' H' [] ⟨[], c⟩ → c.take m = cl' → Rep K B' v d → Q v H'
  | .er ce => ∀ as' B' H' c, Ext as B H as' B' H' → Ok K as' B' H' [] ⟨[], c⟩ → c.take m = cl' → E (.ref ce) none H'
structure FnC (P : Program) (w : World) (K : PySem.W.Frag) (mg : Str → Option Value) (base : Heap) (x : Str) (n m k : Nat) (pre : List Sl → List Cl → Res → List Cl → Prop) : Prop where
  ex : ∃ (f : Addr) (fd : FuncData) (ps : List Str), ps.length = n ∧ FnOk P w K mg base (L2.CX P w) k f fd ps (spC K m pre) ∧ mg x = some (.ref f) ∧ PySem.W.keepIn K (.ref f) = true ∧ Binds K fd ps []
theorem ArgsOk.length {K : PySem.W.Frag} {B : Hp} {as : List Addr} : ∀ {vs : List V} {xs : List Sl}, ArgsOk K B as vs xs → vs.length = xs.length
  | _, _, .nil => rfl
  | _, _, .cons _ t => by rw [List.length_cons, List.length_cons, t.length]
theorem ArgsOk.get {K : PySem.W.Frag} {B : Hp} {as : List Addr} : ∀ {vs : List V} {xs : List Sl} (i : Nat) (y : Sl), ArgsOk K B as vs xs → xs[i]? = some y → SlOk K B as (((vs.map some)[i]?).join) y
  | _, _, _, _, .nil, e => by simp at e
  | _, _, 0, _, .cons h _, e => by simp at e; subst e; exact h
  | _, _, i + 1, y, .cons _ t, e => by
    rw [List.getElem?_cons_succ] at e
    exact t.get i y e
/-- what a caller knows behind a call that had the first m of its cells -/
theorem ok_back {K : PySem.W.Frag} {as as' : List Addr} {B B' H H' : Hp} {σ : L2.St} {s : A} {m : Nat} {c : List Cl} (ok : Ok K as B H σ s) (hm : m ≤ s.cl.length) (x : Ext (as.take m) B H as' B' H') (o : Ok K as' B' H' [] ⟨[], c⟩) (hb : (c.take m).all (·.below m) = true) :
    Ext as B H as B' H' ∧ Ok K as B' H' σ ⟨s.sl, c.take m ++ s.cl.drop m⟩ := by
  have hl := ok.cs.1
  have sub : ∀ a, a ∉ as → a ∉ as.take m := fun a h z => h (List.mem_of_mem_take z)
  obtain ⟨ns, rfl, hns⟩ := x.l
  have hml : (as.take m).length = m := by rw [List.length_take]; omega
  have hcl : as.take m ++ ns = as.take m ++ ns := rfl
  have hc := o.cs.1
  rw [List.length_append, hml] at hc
  have hct : (c.take m).length = m := by rw [List.length_take]; dsimp only at hc; omega
  have same : ∀ j, j < m → as[j]? = (as.take m ++ ns)[j]? := fun j hj => by
    rw [List.getElem?_append_left (by omega), List.getElem?_take, if_pos hj]
  have far : ∀ j a, m ≤ j → as[j]? = some a → a ∉ as.take m := fun j a hj e z => by
    obtain ⟨i, hi, e2⟩ := List.getElem_of_mem z
    rw [List.length_take] at hi
    have e3 : as[i]? = some a := by
      rw [List.getElem_take] at e2
      rw [List.getElem?_eq_getElem (by omega), e2]
    have := nd_ix ok.nd e3 e
    omega
  refine ⟨⟨x.b, fun a u h e => x.k a u (sub a h) e, fun a e1 e2 h => x.n a e1 e2 (sub a h), ⟨[], by simp, fun _ z => nomatch z⟩, x.t⟩, o.sm, ok.nd, fun a ha => x.t a (ok.ht a ha), fun j a d h1 h2 h3 => ?_, ⟨?_, fun j a d h1 h2 => ?_⟩, ok.ln, fun i z hz => (ok.sl i z hz).mono x.b ⟨[], by simp⟩⟩
  · dsimp only at h2
    by_cases hj : j < m
    · rw [List.getElem?_append_left (by omega), List.getElem?_take, if_pos hj] at h2
      exact o.nb j a d (by rw [← same j hj]; exact h1) h2 h3
    · rw [List.getElem?_append_right (by omega), hct, List.getElem?_drop, Nat.add_sub_cancel' (by omega)] at h2
      exact x.n a (ok.nb j a d h1 h2 h3) (ok.ht a (List.mem_of_getElem? h1)) (far j a (by omega) h1)
  · dsimp only
    rw [List.length_append, hct, List.length_drop]
    omega
  · dsimp only at h2
    by_cases hj : j < m
    · rw [List.getElem?_append_left (by omega)] at h2
      have hbd : d.below m = true := List.all_eq_true.mp hb d (List.mem_of_getElem? h2)
      rw [List.getElem?_take, if_pos hj] at h2
      exact (o.cs.2 j a d (by rw [← same j hj]; exact h1) h2).cut hbd same
    · rw [List.getElem?_append_right (by omega), hct, List.getElem?_drop, Nat.add_sub_cancel' (by omega)] at h2
      exact (ok.cs.2 j a d h1 h2).mono x.b ⟨[], by simp⟩ fun _ u e => x.k a u (far j a (by omega) h1) e
theorem je_callC {n m j : Nat} {pre : List Sl → List Cl → Res → List Cl → Prop} {cl' : List Cl} (C : Cok X W k) (F : FnC X.prog X.w X.K X.mg X.base x n m j pre) (hk : j ≤ k) (ha : JA X (e :: es) s sls s1) (hp : pre sls (s1.cl.take m) r cl') (hm : m ≤ s1.cl.length := by exact of_decide_eq_true rfl) (hb1 : (s1.cl.take m).all (·.below m) = true := by rfl) (hb2 : cl'.all (·.below m) = true := by rfl) (hb3 : sls.all (·.below m) = true := by rfl)
    (hcl : cl' ++ s1.cl.drop m = cl := by exact rfl) (hg : Gl X x := by rfl) (hdb : (x == ("__debug__" : Str)) = false := by decide) (he : starEach (e :: es) X.env = (false, eval e X.env) :: starEach es X.env := by rfl) (hpl : (backTo pos (starEach es X.env)).any (·.1) = false := by rfl) :
    JE X W (.Call (.Name x p) (e :: es) [] pos) s r ⟨s1.sl, cl⟩ := fun as B H σ ok Q q => by
  obtain ⟨f, fd, ps, hn, hf, hmg, hkp, hb⟩ := F.ex
  refine wE_of (pe_callS hf (C.hr.mono hk) hg hmg hkp hb (fun σ => passAt C.tk σ) pa_w hdb he hpl) (ha as B H σ ok _ fun vs B1 H1 x1 o1 r1 => ?_)
  have hl := o1.cs.1
  have same : ∀ j, j < m → (as.take m)[j]? = as[j]? := fun j hj => by rw [List.getElem?_take, if_pos hj]
  have o0 : Ok X.K (as.take m) B1 H1 (vs.map some) ⟨sls, s1.cl.take m⟩ := by
    refine ⟨o1.sm, o1.nd.sublist (List.take_sublist _ _), fun a ha => o1.ht a (List.mem_of_mem_take ha), fun j a d h1 h2 h3 => ?_, ⟨by simp [hl], fun j a d h1 h2 => ?_⟩, by rw [List.length_map]; exact r1.length, fun i z hz => ?_⟩
    · dsimp only at h2
      rw [List.getElem?_take] at h1 h2
      split at h1
      · rename_i hj
        rw [if_pos hj] at h2
        exact o1.nb j a d h1 h2 h3
      · cases h1
    · dsimp only at h2
      have hbd : d.below m = true := List.all_eq_true.mp hb1 d (List.mem_of_getElem? h2)
      rw [List.getElem?_take] at h1 h2
      split at h1
      · rename_i hj
        rw [if_pos hj] at h2
        exact (o1.cs.2 j a d h1 h2).cut hbd same
      · cases h1
    · exact (r1.get i z hz).cut (List.all_eq_true.mp hb3 z (List.mem_of_getElem? hz)) same
  refine ⟨as.take m, B1, sls, s1.cl.take m, r, cl', o0, by rw [List.length_take]; omega, hp, ?_⟩
  cases r with
  | ok d =>
    intro v as' B' H' c y o hc rv
    obtain ⟨x2, o2⟩ := ok_back o1 hm y o (by rw [hc]; exact hb2)
    rw [hc, hcl] at o2
    exact q v B' H' (x1.trans x2) o2 rv
  | er ce =>
    intro as' B' H' c y o hc
    obtain ⟨x2, o2⟩ := ok_back o1 hm y o (by rw [hc]; exact hb2)
    rw [hc, hcl] at o2
    exact q B' H' (x1.trans x2) o2
/-- what a body is to reach, its first m cells being cl' at the end -/
def PoC (m : Nat) (r : Res) (cl' : List Cl) : Po := { nx := fun s => r = .ok .non ∧ s.cl.take m = cl', rt := fun d c => r = .ok d ∧ c.take m = cl', bk := fun _ => False, ct := fun _ => False, ex := fun c s => r = .er c ∧ s.cl.take m = cl' }
def slC (N : List Str) (sls : List Sl) : List Sl := sls ++ List.replicate (N.length - sls.length) .u
theorem Ok.none {K : PySem.W.Frag} {as : List Addr} {B H : Hp} {σ : L2.St} {s : A} (h : Ok K as B H σ s) : Ok K as B H [] ⟨[], s.cl⟩ := ⟨h.sm, h.nd, h.ht, h.nb, h.cs, rfl, fun i z e => by simp at e⟩
theorem ok_startC {K : PySem.W.Frag} {as : List Addr} {N : List Str} {B H : Hp} {vs : List V} {cl : List Cl} (o : Ok K as B H (vs.map some) ⟨sls, cl⟩) (hl : sls.length ≤ N.length) : Ok K as B H (L2.start N vs) ⟨slC N sls, cl⟩ where
  sm := o.sm
  nd := o.nd
  ht := o.ht
  nb := o.nb
  cs := o.cs
  ln := by
    have := o.ln
    simp at this
    simp [L2.start, slC]
    omega
  sl := fun i z hz => by
    have ln := o.ln
    simp at ln
    have hz' : (sls ++ List.replicate (N.length - sls.length) .u)[i]? = some z := hz
    unfold L2.start
    by_cases hi : i < sls.length
    · rw [List.getElem?_append_left hi] at hz'
      rw [List.getElem?_append_left (by simp; omega)]
      exact o.sl i z hz'
    · rw [List.getElem?_append_right (by omega), List.getElem?_replicate] at hz'
      split at hz'
      · cases hz'; exact True.intro
      · cases hz'
end
section
variable {Pg : Program} {w : World} {K : PySem.W.Frag} {mg : Str → Option Value} {base : Heap} {x : Str} {st : Stmt} {k : Nat}
theorem fn_okC {qual : Str} {f : Addr} {fd : FuncData} {N ps : List Str} {m : Nat} {pre : List Sl → List Cl → Res → List Cl → Prop} (F : Fun K x qual st f fd) (S : FnScope N ps (defScope st)) (hb : Binds K fd ps []) (hm : mg x = some (.ref f)) (hlen : ∀ sls cl r cl', pre sls cl r cl' → sls.length = ps.length) (hN : ps.length ≤ N.length := by (show _ ≤ _; decide))
    (body : ∀ (cdv : Value) (A : Around) (outer : List Env) (s : Shared) (H : Hp) (E : XK), Cok (cxOf (L2.CX Pg w) Pg w K mg base N qual (defScope st) f cdv A outer s H E) (fun cls d _ H => E cls d H) k → ∀ sls cl r cl', cl.length = m → pre sls cl r cl' →
      JB (cxOf (L2.CX Pg w) Pg w K mg base N qual (defScope st) f cdv A outer s H E) (fun cls d _ H => E cls d H) (defBody st) ⟨slC N sls, cl⟩ (PoC m r cl')) : FnC Pg w K mg base x ps.length m (k + 1) pre where
  ex := ⟨f, fd, ps, rfl, F.okX S (fun vs H Q E h => by
      obtain ⟨as, B, sls, cl, r, cl', o, _, hp, _⟩ := h
      have ln := o.ln
      simp at ln
      rw [ln]
      exact hlen _ _ _ _ hp) (fun cdv A outer s H vs Q E hr h => by
      obtain ⟨as, B, sls, cl, r, cl', o, hml, hp, q⟩ := h
      refine ⟨_, pss_w, ?_⟩
      have C : Cok (cxOf (L2.CX Pg w) Pg w K mg base N qual (defScope st) f cdv A outer s H E) (fun cls d _ H => E cls d H) k := ⟨hr, takes_of rfl rfl rfl rfl, rfl, passes_of rfl, S.nd⟩
      refine body cdv A outer s H E C sls cl r cl' hml hp as B H _ (ok_startC o (by rw [hlen _ _ _ _ hp]; exact hN)) _ ⟨?_, ?_, ?_, ?_, ?_⟩
      · intro as' B' H' σ' s' y o' z
        obtain ⟨z', zc⟩ := z
        subst z'
        exact q .non as' B' H' s'.cl y o'.none zc .non
      · intro as' B' H' σ' s' v d y o' rv z
        obtain ⟨z', zc⟩ := z
        subst z'
        exact q v as' B' H' s'.cl y o'.none zc rv
      · intro as' B' H' σ' s' y o' z; exact z.elim
      · intro as' B' H' σ' s' y o' z; exact z.elim
      · intro as' B' H' σ' s' c y o' z
        obtain ⟨z', zc⟩ := z
        subst z'
        exact q as' B' H' s'.cl y o'.none zc), hm, F.kp, hb⟩
end
end DL
set_option Elab.async false
set_option linter.all false
set_option maxRecDepth 100000
set_option maxHeartbeats 4000000
set_option autoImplicit true
/-! DLl: comprehensions that change cells; calls without arguments; a pair turned round -/
namespace DL
open PySem PySem.Spec PyProof.Rows L2
def foldO {α γ : Type} (g : γ → α → γ) (o : γ → α → D) : γ → List α → List D
  | _, [] => []
  | b, a :: l => o b a :: foldO g o (g b a) l
theorem foldO_snoc {α γ : Type} (g : γ → α → γ) (o : γ → α → D) (a : α) : ∀ (l : List α) (b : γ), foldO g o b (l ++ [a]) = foldO g o b l ++ [o (l.foldl g b) a]
  | [], b => rfl
  | x :: l, b => by
    show o b x :: foldO g o (g b x) (l ++ [a]) = _
    rw [foldO_snoc g o a l (g b x)]
    rfl
theorem foldO_len {α γ : Type} (g : γ → α → γ) (o : γ → α → D) : ∀ (l : List α) (b : γ), (foldO g o b l).length = l.length
  | [], _ => rfl
  | _ :: l, b => by rw [foldO, List.length_cons, List.length_cons, foldO_len g o l]
section
variable {X : Cx} {W : WX} {k : Nat} {e a b c tg iter elt : Expr} {es rest tgs ifs : List Expr} {s s' s1 s2 s3 : A} {d d' d1 d2 d3 da db dc : D} {r : Res} {ds : List D} {xs ys : List D} {pos p2 p apos pos' px py pz np p1 p3 : Pos} {x y z n : Str} {scope : Scope} {own : List (Str × Nat)}
/-- [elt for x in l], the cells changed from item to item: b the state so far, S its cells, Q what holds of it -/
theorem lc_fold {α γ : Type} (i : Nat) (lst : List α) (b0 : γ) (g : γ → α → γ) (o : γ → α → D) (S : γ → List Cl) (Q : Nat → γ → Prop) {enc : α → D} (C : Cok X W k) (hi : JI X (.Name x px) iter s (lst.map enc) s1) (h0 : S b0 = s1.cl) (q0 : Q 0 b0)
    (hs : ∀ j a b, lst[j]? = some a → b = (lst.take j).foldl g b0 → Q j b → Q (j + 1) (g b a) ∧ Blk X scope fun Y => Cok Y WN k → JE Y WN elt ⟨s1.sl.set i (.d (enc a)), S b⟩ (.ok (o b a)) ⟨s1.sl.set i (.d (enc a)), S (g b a)⟩) (hlen : lst.length ≤ sizeLine := by assumption)
    (hblk : blkC X.N X.env.scope scope [(x, i)] = true := by kernel_rfl) (hn : i < s1.sl.length := by exact of_decide_eq_true rfl) (hNi : X.N[i]? = some x := by rfl) (hloc : Blk X scope fun Y => Loc Y.env.scope x := by first | exact fun _ _ _ _ _ => Or.inl rfl | exact fun _ _ _ _ _ => Or.inr rfl) (hfn : Blk X scope fun Y => Y.fn x = true ∨ Y.env.scope.names.lookup x = some .local := by first | exact fun _ _ _ _ _ => .inr rfl | exact fun _ _ _ _ _ => .inl rfl) :
    Lc X (.Name x px) iter elt [] scope [(x, i)] (gName i) s (foldO g o b0 lst) ⟨s1.sl, S (lst.foldl g b0)⟩ := by
  have hQ : ∀ j, j ≤ lst.length → Q j ((lst.take j).foldl g b0) := by
    intro j
    induction j with
    | zero => intro _; exact q0
    | succ j ih =>
      intro hj
      have e : lst[j]? = some lst[j] := List.getElem?_eq_getElem (by omega)
      have := (hs j _ _ e rfl (ih (by omega))).1
      rw [List.take_add_one, e, List.foldl_append]
      exact this
  have h := lc_mk (elt := elt) (ifs := []) hi (tgt_name (K := X.K) hn) (blkOk_by hblk) (Nat.zero_le _) (fun s0 H0 C0 cl0 fp0 => pg_name C.nd hNi (hloc s0 H0 C0 cl0 fp0) (hfn s0 H0 C0 cl0 fp0)) (fun j => foldO g o b0 (lst.take j)) (fun j => S ((lst.take j).foldl g b0)) rfl h0 (fun j hj => by
    rw [foldO_len, List.length_take]
    rw [List.length_map] at hj
    omega) (fun j d hd => by
    rw [List.getElem?_map] at hd
    cases q : lst[j]? with
    | none => rw [q] at hd; cases hd
    | some a =>
      rw [q] at hd
      have hd' : enc a = d := Option.some.inj hd
      subst hd'
      have hj : j < lst.length := (List.getElem?_eq_some_iff.mp q).1
      have st := (hs j a _ q rfl (hQ j (by omega))).2
      have e1 : lst.take (j + 1) = lst.take j ++ [a] := by rw [List.take_add_one, q]; rfl
      refine ⟨s1.sl.set i (.d (enc a)), true, ?_, rfl, fun _ => ⟨o ((lst.take j).foldl g b0) a, fun s0 H0 C0 cl0 fp0 => ?_, ?_⟩, fun z => nomatch z⟩
      · show (s1.sl.set i .u).set i (.d (enc a)) = _
        rw [List.set_set]
      · rw [e1, List.foldl_append]
        exact st s0 H0 C0 cl0 fp0 (C.blk s0 H0 C0 cl0 fp0)
      · rw [e1, foldO_snoc])
  rw [List.length_map, List.take_length] at h
  exact h
/-- f() -/
theorem je_call0 {j : Nat} {pre : List D → Res → Prop} (C : Cok X W k) (F : Fn X.prog X.w X.K X.mg X.base x 0 j pre) (hk : j ≤ k) (hp : pre [] r) (hg : Gl X x := by rfl) (hdb : (x == ("__debug__" : Str)) = false := by decide) : JE X W (.Call (.Name x p) [] [] pos) s r s := fun as B H σ ok Q q => by
  obtain ⟨f, fd, ps, hn, hf, hm, hkp, hb⟩ := F.ex
  have P : PE X (.Call (.Name x p) [] [] pos) (tCallS (spD X.K pre) (WE W) tNil) := ⟨fun pins s σ H Q I h => wpAny_Call_Name_kw (ld_glob I hg hm (PySem.W.callWith_K0 I.kIn hkp (run_fnS (us := []) hf (C.hr.mono hk) hb (passAt C.tk σ) I .nil h)) hdb)⟩
  refine wE_of P ?_
  refine ⟨B, [], r, ok.sm, .nil, hp, ?_⟩
  have up : ∀ {B' H'}, Ext [] B H [] B' H' → Same B' H' → Ext as B H as B' H' ∧ Ok X.K as B' H' σ s := fun {B' H'} y sm => by
    have sH : Same H H' := fun a o e => y.k a o (fun z => nomatch z) e
    exact ⟨⟨y.b, fun a o _ e => sH _ _ e, fun a h1 h2 _ => y.n a h1 h2 (fun z => nomatch z), ⟨[], by simp, fun _ z => nomatch z⟩, y.t⟩,
      ⟨sm, ok.nd, fun a ha => y.t a (ok.ht a ha), fun j a c h1 h2 h3 => y.n a (ok.nb j a c h1 h2 h3) (ok.ht a (List.mem_of_getElem? h1)) (fun z => nomatch z), ⟨ok.cs.1, fun j a c h1 h2 => (ok.cs.2 j a c h1 h2).mono y.b ⟨[], by simp⟩ fun _ u e => sH _ _ e⟩, ok.ln, fun i z hz => (ok.sl i z hz).mono y.b ⟨[], by simp⟩⟩⟩
  cases r with
  | ok d =>
    intro v B' H' y sm rv
    obtain ⟨x2, o2⟩ := up y sm
    exact q v B' H' x2 o2 rv
  | er c =>
    intro B' H' y sm
    obtain ⟨x2, o2⟩ := up y sm
    exact q B' H' x2 o2
/-! ### a pair turned round -/
theorem applied_back {prog : Program} {w : World} {A : Around} {E : Value → Shared → Prop} {s : Shared} {sl : Addr} {vs : Value} {Q : Int × Int × Nat → Shared → Prop} (hs : s.heap.IsSliceOf sl .none .none vs) (ps : IsPart vs (some (-1)))
    (h : Q (1, -1, 2) s) : wpAny (model prog w) A (Builtin.Slice.sliceApplied (.ref sl) (pure (2 : Int))) Q E s := by
  obtain ⟨os, hos, hcs, hds⟩ := id hs
  unfold Builtin.Slice.sliceApplied Builtin.Slice.sliceFields
  refine wpAny_bind (wpAny_bind (wpAny_field hos hds (x := .none) rfl (wpAny_bind (wpAny_field hos hds (x := .none) rfl (wpAny_bind (wpAny_field hos hds (x := vs) rfl (wpAny_pure (wpAny_bind (HT.slicePart_ ps ?_)))))))))
  show wpAny _ _ (if ((-1 : Int) == 0) = true then _ else _) _ _ s
  rw [if_neg (by decide)]
  exact wpAny_bind (HT.slicePart_ .none (wpAny_bind (HT.slicePart_ .none (wpAny_bind (wpAny_pure (wpAny_pure h))))))
theorem item_back {prog : Program} {w : World} {A : Around} {E : Value → Shared → Prop} {s : Shared} {t sl : Addr} {u1 u2 vs : Value} {Q : Value → Shared → Prop} (ht : IsTup s.heap t #[u1, u2]) (hs : s.heap.IsSliceOf sl .none .none vs) (ps : IsPart vs (some (-1)))
    (h : Q (.ref s.heap.objs.size) { s with heap := s.heap.push { cls := .type "tuple", data := .seq #[u2, u1] } }) : wpAny (model prog w) A (getItem (.ref t) (.ref sl)) Q E s := by
  have size : sizeOk (.seq #[u2, u1]) := show (2 : Nat) ≤ sizeLine by rw [sizeLine_eq]; decide
  have tyS : s.TypeIs (.ref sl) "slice" := by
    obtain ⟨os, hos, hcs, _⟩ := id hs
    exact ⟨os, hos, hcs⟩
  unfold getItem
  try with_reducible refine wpAny_holding ?_
  first | refine wpAny_bind (wpAny_pure ?_) | skip
  refine wpAny_bind (wpAny_sequenceKey ht.typeIs (by decide) (wpAny_bind (wpAny_callSpecial?_slot (name := Str.ofString "__getitem__") ht.typeIs PyProof.Rows.slot_tuple_getitem
    (wpAny_call_entry PyProof.Rows.slot_tuple_getitem ht.typeIs PyProof.Rows.entry_tuple_getitem ?_ (PyProof.Rows.args_tuple_getitem _ _)))))
  show wpAny _ _ (Builtin.Tuple.tupleItemsOf (.ref t) >>= _) _ _ s
  refine wpAny_bind (tupleItemsOf_ ht (wpAny_bind (wpAny_typeOf tyS ?_)))
  rw [if_pos (by decide)]
  refine wpAny_bind (applied_back hs ps ?_)
  show wpAny _ _ (if ((1 : Int) == 0 && (-1 : Int) == 1 && (2 : Nat) == 2) = true then _ else _) _ _ s
  rw [if_neg (by decide)]
  first
    | exact wpAny_bind (m := Builtin.Tuple.tupleExact _) (wpAny_newObj_type (wpAny_pure ⟨_, rfl, wpAny_pure h⟩) size)
    | exact wpAny_bind (m := Builtin.Tuple.tupleExact _) (wpAny_newObj_type (wpAny_bind (wpAny_pure (wpAny_pure ⟨_, rfl, wpAny_pure h⟩))) size)
    | exact wpAny_bind (wpAny_bind (m := Builtin.Tuple.tupleExact _) (wpAny_newObj_type (wpAny_pure (wpAny_pure ⟨_, rfl, wpAny_pure h⟩)) size))
    | exact wpAny_bind (wpAny_bind (m := Builtin.Tuple.tupleExact _) (wpAny_newObj_type (wpAny_pure ⟨_, rfl, wpAny_pure h⟩) size))
def tBack (K : PySem.W.Frag) (te : TE) : TE := fun σ H Q => te σ H fun y H1 => ∃ a v1 v2, y = .ref a ∧ SqT K H1 a [v1, v2] ∧ ∀ p, H1 p = none → Q (.ref p) (upd H1 p (.tup [v2, v1]))
theorem pe_back {te : TE} {q : Nat} (he : PE X e te) : PE X (.Subscript e (.Slice none none (some (.UnaryOp .USub (.Constant (.int 1) q p1) p2)) p3) pos) (tBack X.K te) := by
  refine ⟨fun pins s σ H Q I h => Subscript_ (thn (he.run pins s σ H _ I h) fun v t ⟨y, H1, I1, r1, a, v1, v2, ey, hx, q1⟩ => ?_)⟩
  subst ey
  cases r1
  refine wpAny_Slice (thn (po_none.run pins t σ H1 (fun o H2 => o = none ∧ H2 = H1) I1 ⟨rfl, rfl⟩) fun vl t2 ⟨l, H2, I2, pl, el, e2⟩ => ?_)
  subst el e2
  refine thn (po_none.run pins t2 σ H2 (fun o H3 => o = none ∧ H3 = H2) I2 ⟨rfl, rfl⟩) fun vu t3 ⟨u, H3, I3, pu, eu, e3⟩ => ?_
  subst eu e3
  have minus : PO X (some (.UnaryOp .USub (.Constant (.int 1) q p1) p2)) (tPart (tUn (rU fun i => .int (-i)) (tC (.int 1)))) := po_some (pe_un un_neg pe_int)
  refine thn (minus.run pins t3 σ H3 (fun o H4 => o = some (-1) ∧ H4 = H3) I3 ⟨1, rfl, -1, rfl, rfl, rfl⟩) fun vs t4 ⟨o, H4, I4, ps, eo, e4⟩ => ?_
  subst eo e4
  cases pl
  cases pu
  have I5 : Inv X pins σ H4 { t4 with heap := t4.heap.push { cls := .type "slice", data := .fields #[.none, .none, vs] } } := I4.kept (t' := t4.toks) fun b ob z => Heap.get?_push_of_some _ z
  obtain ⟨its, rv, ht, hz⟩ := I5.tuple hx
  obtain ⟨u1, u2, rfl, w1, w2⟩ := vals2 rv
  show wpAny (model X.prog X.w) X.A (subscriptTail e (.Slice none none (some (.UnaryOp .USub (.Constant (.int 1) q p1) p2)) p3) (.ref a) (.ref t4.heap.objs.size)) (EP X pins σ Q) X.xe { t4 with heap := t4.heap.push { cls := .type "slice", data := .fields #[.none, .none, vs] } }
  refine tail_any (ops := [.ref a, .ref t4.heap.objs.size]) ht.typeIs PyProof.Rows.slot_tuple_getitem.lookup ?_ (by with_unfolding_all rfl)
  refine item_back ht (Heap.IsSliceOf.new _ _ _ vs) ps ?_
  exact ⟨.ref _, _, I5.laid (t' := t4.toks) (o := .tup [v2, v1]) (fun b ob z => Heap.get?_push_of_some _ z) (Nat.le_refl _) ⟨by show 2 ≤ sizeLine; rw [sizeLine_eq]; decide, _, .cons w2 (.cons w1 .nil), IsTup.new _ _⟩, rfl, q1 _ (I5.hok.fresh (Nat.le_refl _))⟩
/-- (a, b)[::-1] -/
theorem je_back {q : Nat} (he : JE X W e s (.ok (.tup [d1, d2])) s1) : JE X W (.Subscript e (.Slice none none (some (.UnaryOp .USub (.Constant (.int 1) q p1) p2)) p3) pos) s (.ok (.tup [d2, d1])) s1 :=
  je_of (pe_back pe_w) fun as B H σ ok Q q => Ok.one he ok fun x B1 H1 e1 o1 r1 => by
    cases r1 with
    | tup hs hr =>
      cases hr with
      | cons r1 hr =>
        cases hr with
        | cons r2 hr =>
          cases hr
          refine ⟨_, _, _, rfl, same_t o1.sm hs, fun p hp => ?_⟩
          obtain ⟨o3, e3⟩ := o1.new (o := .tup _) hp
          exact q _ _ _ (e1.trans e3) o3 (.tup (.inl (.inl upd_same)) (.cons (r2.mono e3.b) (.cons (r1.mono e3.b) .nil)))
/-- a, b = x, y -/
theorem js_par (i j : Nat) {P : Po} {W : WX} {l : List Sl} {cl : List Cl} {pt pt2 : Pos} {kt k2 : Nat} (C : Cok X W k) (h : JD X [a, b] s [d1, d2] s1) (hP : P.nx ⟨l, cl⟩) (hl : (s1.sl.set i (.d d1)).set j (.d d2) = l := by (first | (dsimp only [List.set, List.length_cons, List.length_nil, List.cons_append, List.nil_append, Nat.reduceAdd]; done) | (dsimp only [List.set, List.length_cons, List.length_nil, List.cons_append, List.nil_append, Nat.reduceAdd]; exact rfl) | exact rfl)) (hcl : s1.cl = cl := by (first | (dsimp only [List.set, List.length_cons, List.length_nil, List.cons_append, List.nil_append, Nat.reduceAdd]; done) | (dsimp only [List.set, List.length_cons, List.length_nil, List.cons_append, List.nil_append, Nat.reduceAdd]; exact rfl) | exact rfl))
    (hi : X.N[i]? = some x := by rfl) (hj : X.N[j]? = some y := by rfl) (hij : i ≠ j := by decide) (hx : X.env.scope.names.lookup x = some .local := by rfl) (hy : X.env.scope.names.lookup y = some .local := by rfl) (hni : i < s1.sl.length := by exact of_decide_eq_true rfl) (hnj : j < s1.sl.length := by exact of_decide_eq_true rfl)
    (hw : swappedStores [.Tuple [.Name x px, .Name y py] kt pt] (.Tuple [a, b] k2 pt2) X.env = pure (some [x, y]) := by rfl) (hs : swapsWithSole [.Tuple [.Name x px, .Name y py] kt pt] (.Tuple [a, b] k2 pt2) pos.line X.env = pure false := by rfl) :
    JS X W (.Assign [.Tuple [.Name x px, .Name y py] kt pt] (.Tuple [a, b] k2 pt2) pos) s P :=
  js_of (ps_par C.calm C.nd hi hj hij hx hy pa_w hw hs) fun as B H σ ok Dn f => h as B H σ ok _ fun vs B1 H1 x1 o1 r => by
    cases r with
    | cons r1 r =>
      cases r with
      | cons r2 r =>
        cases r
        have o2 := o1.store (i := i) (x := .d d1) hni ⟨_, rfl, r1⟩
        have o3 := o2.store (i := j) (x := .d d2) (by rw [List.length_set]; exact hnj) ⟨_, rfl, r2⟩
        dsimp only at o3
        rw [hl] at o3
        rw [← hcl] at hP
        exact ⟨_, _, rfl, f.nx as B1 H1 _ _ x1 o3 hP⟩
end
end DL
set_option Elab.async false
set_option linter.all false
set_option maxRecDepth 100000
set_option maxHeartbeats 4000000
set_option autoImplicit true
/-! DLm: cells that a block has made are forgotten at its end -/
namespace DL
open PySem PySem.Spec PyProof.Rows L2
structure Cut (n : Nat) (s t : A) : Prop where
  sl : t.sl = s.sl
  cl : t.cl = s.cl.take n
  bs : t.sl.all (·.below n) = true
  bc : t.cl.all (·.below n) = true
theorem Ok.cutTo {K : PySem.W.Frag} {as ns : List Addr} {B H : Hp} {σ : L2.St} {s t : A} (o : Ok K (as ++ ns) B H σ s) (c : Cut as.length s t) : Ok K as B H σ t := by
  have hl := o.cs.1
  rw [List.length_append] at hl
  have same : ∀ j, j < as.length → as[j]? = (as ++ ns)[j]? := fun j hj => by rw [List.getElem?_append_left hj]
  have at_ : ∀ {j : Nat} {a : Addr} {d : Cl}, as[j]? = some a → t.cl[j]? = some d → (as ++ ns)[j]? = some a ∧ s.cl[j]? = some d := fun {j a d} h1 h2 => by
    have hj := (List.getElem?_eq_some_iff.mp h1).1
    rw [c.cl, List.getElem?_take, if_pos hj] at h2
    exact ⟨by rw [← same j hj]; exact h1, h2⟩
  refine ⟨o.sm, o.nd.sublist (List.sublist_append_left _ _), fun a ha => o.ht a (List.mem_append_left _ ha), fun j a d h1 h2 h3 => ?_, ⟨?_, fun j a d h1 h2 => ?_⟩, by rw [c.sl]; exact o.ln, fun i x hx => ?_⟩
  · obtain ⟨e1, e2⟩ := at_ h1 h2
    exact o.nb j a d e1 e2 h3
  · rw [c.cl, List.length_take]
    omega
  · obtain ⟨e1, e2⟩ := at_ h1 h2
    exact (o.cs.2 j a d e1 e2).cut (List.all_eq_true.mp c.bc d (List.mem_of_getElem? h2)) same
  · have hb := List.all_eq_true.mp c.bs x (List.mem_of_getElem? hx)
    rw [c.sl] at hx
    exact (o.sl i x hx).cut hb same
section
variable {X : Cx} {W : WX} {sts : List Stmt} {s t : A} {P : Po}
/-- what holds at a block's end holds without the cells that it made -/
def dropP (n : Nat) (P : Po) : Po := { P with nx := fun s2 => ∃ s3, Cut n s2 s3 ∧ P.nx s3, ct := fun s2 => ∃ s3, Cut n s2 s3 ∧ P.ct s3 }
theorem jb_drop (h : JB X W sts s (dropP s.cl.length P)) : JB X W sts s P := fun as B H σ ok Dn f => by
  have hl := ok.cs.1
  have back : ∀ {as' B' H'}, Ext as B H as' B' H' → Ext as B H as B' H' := fun {as' B' H'} x => ⟨x.b, x.k, x.n, ⟨[], by simp, fun _ z => nomatch z⟩, x.t⟩
  refine h as B H σ ok Dn ⟨fun as' B' H' σ' s' x o ⟨s3, c, z⟩ => ?_, f.rt, f.bk, fun as' B' H' σ' s' x o ⟨s3, c, z⟩ => ?_, f.ex⟩
  · obtain ⟨ns, e, _⟩ := x.l
    rw [← hl] at c
    rw [e] at o
    exact f.nx as B' H' σ' s3 (back x) (o.cutTo c) z
  · obtain ⟨ns, e, _⟩ := x.l
    rw [← hl] at c
    rw [e] at o
    exact f.ct as B' H' σ' s3 (back x) (o.cutTo c) z
theorem jb_finD {n : Nat} (t : A) (hN : P.nx t) (h1 : s.cl.take n = t.cl := by rfl) (h : Les s.sl t.sl := by (repeat (first | exact Les.nil | apply Les.eq | apply Les.u))) (hb : t.sl.all (·.below n) = true := by rfl) (hc : t.cl.all (·.below n) = true := by rfl) : JB X W [] s (dropP n P) :=
  jb_end (l := t.sl) h ⟨t, ⟨rfl, h1.symm, hb, hc⟩, hN⟩
/-- for over a list that is a cell and stays as it is -/
theorem js_forC {tg : Expr} {x : Str} {p pos : Pos} {body : List Stmt} {ds : List D} {k : Nat} (i j : Nat) (I : Nat → A → Prop) (C : Cok X W k) (h0 : I 0 s) (keep : ∀ n s', I n s' → s'.cl[j]? = some (.lst ds)) (hs : ∀ n d s', ds[n]? = some d → I n s' → JG X tg d s' fun s2 => JB X W body s2 { P with nx := I (n + 1), ct := I (n + 1), bk := P.nx }) (hd : ∀ s', I ds.length s' → P.nx s')
    (hi : s.sl[i]? = some (.c j) := by rfl) (hN : X.N[i]? = some x := by rfl) (hv : Vis X.env.scope x := by first | exact Or.inl rfl | exact Or.inr (Or.inl rfl) | exact Or.inr (Or.inr rfl)) (hd1 : (x == ("__debug__" : Str)) = false := by decide) (hd2 : (x == ("__classdict__" : Str)) = false := by decide)
    (hf : ∀ z, foldedSetIterable (.Name x p) X.env z = pure z := by intro _; rfl) : JS X W (.For tg (.Name x p) body [] pos) s P :=
  js_of (ps_for C.hp C.calm (pi_list (pe_var hN hv hd1 hd2)) pg_w pss_w hf) fun as B H σ ok Dn f => by
    obtain ⟨a, v1, ha⟩ := cell_of ok hi
    obtain ⟨vs0, hv0, _⟩ := ok.cs.2 j a _ ha (keep 0 s h0)
    refine ⟨.ref a, v1, a, rfl, ⟨vs0, .inl (.inl hv0)⟩, fun n m σ' H' => m = ds.length - n ∧ n ≤ ds.length ∧ ∃ as' B' s', Ext as B H as' B' H' ∧ Ok X.K as' B' H' σ' s' ∧ I n s', ⟨ds.length, by simp, Nat.zero_le _, as, B, s, Ext.refl .., ok, h0⟩, ?_⟩
    rintro n m σ' H' ⟨rfl, hle, as', B', s', x2, o2, hI⟩
    obtain ⟨vs, hv', hr⟩ : ∃ vs, H' a = some (.lst vs) ∧ Reps X.K B' vs ds := by
      obtain ⟨ns, e, _⟩ := x2.l
      have ha' : as'[j]? = some a := by rw [e, List.getElem?_append_left (List.getElem?_eq_some_iff.mp ha).1]; exact ha
      exact o2.cs.2 j a _ ha' (keep n s' hI)
    have hl := hr.length
    by_cases hlt : n < ds.length
    · refine .inr ⟨⟨vs, vs[n]'(by omega), .inl (.inl hv'), List.getElem?_eq_getElem _⟩, fun σ2 H2 => ∃ as2 B2 s2, Ext as' B' H' as2 B2 H2 ∧ Ok X.K as2 B2 H2 σ2 s2 ∧ I (n + 1) s2, fun σ2 H2 ⟨as2, B2, s2, x3, o3, h3⟩ => ⟨ds.length - (n + 1), by omega, rfl, hlt, as2, B2, s2, x2.trans x3, o3, h3⟩, fun v H2 y => ?_⟩
      obtain ⟨rfl, e2⟩ := y
      obtain ⟨d, hd', r⟩ := hr.getV (e2 vs (.inl (.inl hv')))
      refine hs n d s' hd' hI as' B' H2 σ' v o2 r _ fun σ3 s3 o3 h3 => ?_
      exact h3 as' B' H2 σ3 o3 _ ⟨fun as4 B4 H4 σ4 s4 x4 o4 z => ⟨as4, B4, s4, x4, o4, z⟩, fun as4 B4 H4 σ4 s4 v d x4 => f.rt as4 B4 H4 σ4 s4 v d (x2.trans x4), fun as4 B4 H4 σ4 s4 x4 => f.nx as4 B4 H4 σ4 s4 (x2.trans x4),
        fun as4 B4 H4 σ4 s4 x4 o4 z => ⟨as4, B4, s4, x4, o4, z⟩, fun as4 B4 H4 σ4 s4 c x4 => f.ex as4 B4 H4 σ4 s4 c (x2.trans x4)⟩
    · have e : n = ds.length := by omega
      subst e
      exact .inl ⟨⟨vs, .inl (.inl hv'), Nat.le_of_eq hl⟩, f.nx as' B' H' σ' s' x2 o2 (hd s' hI)⟩
end
section
variable {X : Cx} {W : WX} {k : Nat} {e a b c tg iter elt : Expr} {es rest tgs ifs : List Expr} {st : Stmt} {sts body orelse : List Stmt} {s s' s1 s2 s3 : A} {P : Po} {d d' d1 d2 d3 da db dc : D} {r : Res} {ds : List D} {xs ys : List D} {pos p2 p apos pos' px py pz : Pos} {x y z : Str} {β β1 β2 : Bool} {op : CmpOp} {l : List Sl} {scope : Scope} {own : List (Str × Nat)} {R : A → Prop} {q : Nat}
/-- a list taken apart -/
theorem jg_lst {R : A → Prop} {j : Nat} {n : Nat} (C : X.calm = true) (h : JGs X es ds s R) (hl : ds.length = n) (hn : (assignEach es X.env).length = n := by rfl) (hst : (assignEach es X.env).findIdx? (·.1) = none := by rfl) : JG X (.Tuple es j pos) (.lst ds) s R :=
  fun as B H σ v ok r Q q => wG_of (pg_unl C pgs_w hn hst) (by
    cases r with
    | lst ha hv => exact ⟨_, _, rfl, .inl (.inl (ok.sm _ _ ha)), hv.length.trans hl, h as B H σ _ ok hv Q q⟩)
theorem jg_l3 (i j m : Nat) (C : Cok X W k) {cl : List Cl} (hR : R ⟨l, cl⟩) (hl : ((s.sl.set i (.d d1)).set j (.d d2)).set m (.d d3) = l := by (first | (dsimp only [List.set, List.length_cons, List.length_nil, List.cons_append, List.nil_append, Nat.reduceAdd]; done) | (dsimp only [List.set, List.length_cons, List.length_nil, List.cons_append, List.nil_append, Nat.reduceAdd]; exact rfl) | exact rfl)) (hcl : s.cl = cl := by (first | (dsimp only [List.set, List.length_cons, List.length_nil, List.cons_append, List.nil_append, Nat.reduceAdd]; done) | (dsimp only [List.set, List.length_cons, List.length_nil, List.cons_append, List.nil_append, Nat.reduceAdd]; exact rfl) | exact rfl)) (hi : X.N[i]? = some x := by rfl) (hj : X.N[j]? = some y := by rfl) (hm : X.N[m]? = some z := by rfl) (hx : Loc X.env.scope x := by first | exact .inl rfl | exact .inr rfl) (hy : Loc X.env.scope y := by first | exact .inl rfl | exact .inr rfl) (hz : Loc X.env.scope z := by first | exact .inl rfl | exact .inr rfl)
    (hn : i < s.sl.length := by exact of_decide_eq_true rfl) (hn2 : j < s.sl.length := by exact of_decide_eq_true rfl) (hn3 : m < s.sl.length := by exact of_decide_eq_true rfl) (hf : X.fn x = true ∨ X.env.scope.names.lookup x = some .local := by first | exact .inl rfl | exact .inr rfl) (hf2 : X.fn y = true ∨ X.env.scope.names.lookup y = some .local := by first | exact .inl rfl | exact .inr rfl) (hf3 : X.fn z = true ∨ X.env.scope.names.lookup z = some .local := by first | exact .inl rfl | exact .inr rfl)
    (h0 : (assignEach [Expr.Name x px, Expr.Name y py, Expr.Name z pz] X.env).map (·.2) = assign (.Name x px) X.env :: (assignEach [Expr.Name y py, Expr.Name z pz] X.env).map (·.2) := by rfl)
    (h1 : (assignEach [Expr.Name y py, Expr.Name z pz] X.env).map (·.2) = assign (.Name y py) X.env :: (assignEach [Expr.Name z pz] X.env).map (·.2) := by rfl) (h2 : (assignEach [Expr.Name z pz] X.env).map (·.2) = assign (.Name z pz) X.env :: (assignEach [] X.env).map (·.2) := by rfl)
    (h3 : (assignEach [Expr.Name x px, Expr.Name y py, Expr.Name z pz] X.env).length = 3 := by rfl) (h4 : (assignEach [Expr.Name x px, Expr.Name y py, Expr.Name z pz] X.env).findIdx? (·.1) = none := by rfl) : JG X (.Tuple [.Name x px, .Name y py, .Name z pz] q pos) (.lst [d1, d2, d3]) s R :=
  jg_lst C.calm (jgs_cons (jg_name i C.nd (jgs_cons (jg_name j C.nd (jgs_cons (jg_name m C.nd (jgs_nil (by rw [← hl, ← hcl] at hR; exact hR)) rfl rfl hm hz (by rw [List.length_set, List.length_set]; exact hn3) hf3) h2) rfl rfl hj hy (by rw [List.length_set]; exact hn2) hf2) h1) rfl rfl hi hx hn hf) h0) rfl h3 h4
/-- js_fold over a list that is a cell: the cells of S b hold it at j -/
theorem js_foldC {α γ : Type} {R : A → Prop} (i j : Nat) (lst : List α) (f : γ → α → γ) (b0 : γ) (S : γ → A) (Q : Nat → γ → Prop) {enc : α → D} (C : Cok X W k) (q0 : Q 0 b0) (keep : ∀ b, (S b).cl[j]? = some (.lst (lst.map enc)))
    (hs : ∀ n a b, (ha : lst[n]? = some a) → b = (lst.take n).foldl f b0 → Q n b → JG X tg (enc a) (S b) fun s2 => JB X W body s2 { P with nx := fun s3 => s3 = S (f b a) ∧ Q (n + 1) (f b a), ct := fun s3 => s3 = S (f b a) ∧ Q (n + 1) (f b a), bk := P.nx })
    (hd : Q lst.length (lst.foldl f b0) → P.nx (S (lst.foldl f b0))) (h1 : s.cl = (S b0).cl := by rfl) (h2 : Les s.sl (S b0).sl := by (repeat (first | exact Les.nil | apply Les.eq | apply Les.u)))
    (hi : (S b0).sl[i]? = some (.c j) := by rfl) (hN : X.N[i]? = some x := by rfl) (hv : Vis X.env.scope x := by first | exact Or.inl rfl | exact Or.inr (Or.inl rfl) | exact Or.inr (Or.inr rfl)) (hd1 : (x == ("__debug__" : Str)) = false := by decide) (hd2 : (x == ("__classdict__" : Str)) = false := by decide)
    (hf : ∀ z, foldedSetIterable (.Name x p) X.env z = pure z := by intro _; rfl) : JS X W (.For tg (.Name x p) body [] pos) s P := by
  refine js_le ⟨h1, h2⟩ (js_forC (ds := lst.map enc) i j (fun n s' => s' = S ((lst.take n).foldl f b0) ∧ Q n ((lst.take n).foldl f b0)) C ⟨rfl, q0⟩ (fun n s' h => by rw [h.1]; exact keep _) (fun n d s' hd' h => ?_) (fun s' h => ?_) hi hN hv hd1 hd2 hf)
  · obtain ⟨rfl, hq⟩ := h
    rw [List.getElem?_map] at hd'
    cases e : lst[n]? with
    | none => rw [e] at hd'; cases hd'
    | some a =>
      rw [e] at hd'
      have hd' : enc a = d := Option.some.inj hd'
      subst hd'
      have g := hs n a _ e rfl hq
      have e2 : (lst.take (n + 1)).foldl f b0 = f ((lst.take n).foldl f b0) a := by
        rw [List.take_add_one, e, List.foldl_append]
        rfl
      rw [e2]
      exact g
  · obtain ⟨rfl, hq⟩ := h
    rw [List.length_map, List.take_length] at hq ⊢
    exact hd hq
end
end DL
set_option Elab.async false
set_option linter.all false
set_option maxRecDepth 100000
set_option maxHeartbeats 4000000
set_option autoImplicit true
/-! DLn: instances: attributes, methods, making -/
namespace DL
open PySem PySem.Spec PyProof.Rows L2
/-! ### attributes by name -/
def putS (f : Str) (y : Sl) : List (Str × Sl) → List (Str × Sl)
  | [] => [(f, y)]
  | (g, w) :: r => if g = f then (g, y) :: r else (g, w) :: putS f y r
section
variable {K : PySem.W.Frag} {B : Hp} {as : List Addr}
/-- attributes as they are told -/
def FsOk (K : PySem.W.Frag) (B : Hp) (as : List Addr) (gs : List (Str × V)) (fs : List (Str × Sl)) : Prop := gs.map (·.1) = fs.map (·.1) ∧ ∀ (i : Nat) (x : Sl), (fs.map (·.2))[i]? = some x → SlOk K B as (gs.map (·.2))[i]? x
theorem FsOk.tail {g : Str × V} {gs : List (Str × V)} {f : Str × Sl} {fs : List (Str × Sl)} (h : FsOk K B as (g :: gs) (f :: fs)) : g.1 = f.1 ∧ SlOk K B as (some g.2) f.2 ∧ FsOk K B as gs fs := by
  obtain ⟨h1, h2⟩ := h
  rw [List.map_cons, List.map_cons] at h1
  injection h1 with e1 e2
  exact ⟨e1, h2 0 f.2 rfl, e2, fun i x hx => h2 (i + 1) x hx⟩
theorem FsOk.cons {g : Str × V} {gs : List (Str × V)} {f : Str × Sl} {fs : List (Str × Sl)} (e : g.1 = f.1) (h1 : SlOk K B as (some g.2) f.2) (h : FsOk K B as gs fs) : FsOk K B as (g :: gs) (f :: fs) := by
  refine ⟨by rw [List.map_cons, List.map_cons, e, h.1], fun i x hx => ?_⟩
  cases i with
  | zero =>
    have hx : some f.2 = some x := hx
    cases hx
    exact h1
  | succ i => exact h.2 i x hx
theorem FsOk.get {f : Str} {x : Sl} : ∀ {fs : List (Str × Sl)} {gs : List (Str × V)}, FsOk K B as gs fs → fs.lookup f = some x → ∃ v, gs.lookup f = some v ∧ SlOk K B as (some v) x
  | [], gs, _, e => by cases e
  | _ :: _, [], h, _ => by have := h.1; simp at this
  | (k, y) :: fs, (k2, v) :: gs, h, e => by
    obtain ⟨e1, h1, h2⟩ := h.tail
    have e1 : k2 = k := e1
    subst e1
    by_cases q : f = k2
    · have hb : (f == k2) = true := beq_iff_eq.mpr q
      simp only [List.lookup, hb] at e ⊢
      cases e
      exact ⟨v, rfl, h1⟩
    · have hb : (f == k2) = false := beq_eq_false_iff_ne.mpr q
      simp only [List.lookup, hb] at e ⊢
      exact FsOk.get h2 e
theorem FsOk.no {f : Str} : ∀ {fs : List (Str × Sl)} {gs : List (Str × V)}, FsOk K B as gs fs → fs.lookup f = none → gs.lookup f = none
  | [], [], _, _ => rfl
  | [], _ :: _, h, _ => by have := h.1; simp at this
  | _ :: _, [], h, _ => rfl
  | (k, y) :: fs, (k2, v) :: gs, h, e => by
    obtain ⟨e1, h1, h2⟩ := h.tail
    have e1 : k2 = k := e1
    subst e1
    by_cases q : f = k2
    · have hb : (f == k2) = true := beq_iff_eq.mpr q
      simp only [List.lookup, hb] at e
      cases e
    · have hb : (f == k2) = false := beq_eq_false_iff_ne.mpr q
      simp only [List.lookup, hb] at e ⊢
      exact FsOk.no h2 e
theorem FsOk.put {f : Str} {v : V} {x : Sl} (r : SlOk K B as (some v) x) : ∀ {fs : List (Str × Sl)} {gs : List (Str × V)}, FsOk K B as gs fs → FsOk K B as (putF f v gs) (putS f x fs)
  | [], [], _ => FsOk.cons rfl r ⟨rfl, fun i x e => by simp at e⟩
  | [], _ :: _, h => by have := h.1; simp at this
  | _ :: _, [], h => by have := h.1; simp at this
  | (k, y) :: fs, (k2, w) :: gs, h => by
    obtain ⟨e1, h1, h2⟩ := h.tail
    have e1 : k2 = k := e1
    subst e1
    unfold putF putS
    by_cases q : k2 = f
    · rw [if_pos q, if_pos q]
      exact FsOk.cons rfl r h2
    · rw [if_neg q, if_neg q]
      exact FsOk.cons rfl h1 (FsOk.put r h2)
theorem FsOk.tell {f : Str} {x : Sl} : ∀ {fs : List (Str × Sl)} {gs : List (Str × V)}, FsOk K B as gs fs → (∀ v, gs.lookup f = some v → SlOk K B as (some v) x) → (fs.lookup f).isSome = true → FsOk K B as gs (putS f x fs)
  | [], gs, _, _, e => by cases e
  | _ :: _, [], h, _, _ => by have := h.1; simp at this
  | (k, y) :: fs, (k2, w) :: gs, h, r, e => by
    obtain ⟨e1, h1, h2⟩ := h.tail
    have e1 : k2 = k := e1
    subst e1
    unfold putS
    by_cases q : k2 = f
    · have hb : (f == k2) = true := beq_iff_eq.mpr q.symm
      rw [if_pos q]
      exact FsOk.cons rfl (r w (by simp only [List.lookup, hb])) h2
    · have hb : (f == k2) = false := beq_eq_false_iff_ne.mpr (Ne.symm q)
      rw [if_neg q]
      simp only [List.lookup, hb] at e r
      exact FsOk.cons rfl h1 (FsOk.tell h2 r e)
theorem FsOk.len {fs : List (Str × Sl)} {gs : List (Str × V)} (h : FsOk K B as gs fs) : gs.length = fs.length := by
  have := congrArg List.length h.1
  rwa [List.length_map, List.length_map] at this
theorem ins_of {H : Hp} {σ : L2.St} {s : A} {i j : Nat} {C : Addr} {fs : List (Str × Sl)} (ok : Ok K as B H σ s) (hi : s.sl[i]? = some (.c j)) (hc : s.cl[j]? = some (.ins C fs)) : ∃ a dx gs, σ[i]? = some (some (.ref a)) ∧ as[j]? = some a ∧ H a = some (.ins C dx gs) ∧ FsOk K B as gs fs := by
  obtain ⟨a, v1, ha⟩ := cell_of ok hi
  obtain ⟨dx, gs, h1, h2, h3⟩ := ok.cs.2 j a _ ha hc
  exact ⟨a, dx, gs, v1, ha, h1, h2, h3⟩
end
section
variable {X : Cx} {W : WX} {k : Nat} {e a b c o : Expr} {es : List Expr} {sts : List Stmt} {s s' s1 s2 s3 : A} {P : Po} {d da db : D} {r : Res} {ds : List D} {xs ys : List D} {sls : List Sl} {pos p2 p apos pos' py : Pos} {x y f : Str} {β : Bool} {l : List Sl} {cl : List Cl} {C : Addr} {fs : List (Str × Sl)}
/-- o.f, a value -/
theorem je_fld (i : Nat) {j : Nat} (c : Cls X.K C) (n : NoAttr X.K C f) (hi : s.sl[i]? = some (.c j) := by rfl) (hc : s.cl[j]? = some (.ins C fs) := by rfl) (hf : fs.lookup f = some (.d d) := by rfl) (hN : X.N[i]? = some x := by rfl) (hv : Vis X.env.scope x := by first | exact Or.inl rfl | exact Or.inr (Or.inl rfl) | exact Or.inr (Or.inr rfl)) (hd1 : (x == ("__debug__" : Str)) = false := by decide) (hd2 : (x == ("__classdict__" : Str)) = false := by decide)
    (hb : attributeBase (.Name x p2) f X.env (eval (.Name x p2) X.env) = eval (.Name x p2) X.env := by rfl) : JE X W (.Attribute (.Name x p2) f pos) s (.ok d) s :=
  je_of (pe_fld (pe_var hN hv hd1 hd2) hb) fun as B H σ ok Q q => by
    obtain ⟨a, dx, gs, v1, _, hH, hg⟩ := ins_of ok hi hc
    obtain ⟨v, hl, w, ew, rw_⟩ := hg.get hf
    cases ew
    exact ⟨.ref a, v1, a, C, dx, gs, v, rfl, hH, c, n, hl, q v B H (Ext.refl ..) ok rw_⟩
/-- len(o.f), o.f a list that is a cell -/
theorem je_lenF (i : Nat) {j jl : Nat} (hm : X.mg "len" = none) (c : Cls X.K C) (n : NoAttr X.K C f) (hi : s.sl[i]? = some (.c j) := by rfl) (hc : s.cl[j]? = some (.ins C fs) := by rfl) (hf : fs.lookup f = some (.c jl) := by rfl) (hl : s.cl[jl]? = some (.lst xs) := by rfl) (hN : X.N[i]? = some x := by rfl) (hv : Vis X.env.scope x := by first | exact Or.inl rfl | exact Or.inr (Or.inl rfl) | exact Or.inr (Or.inr rfl)) (hd1 : (x == ("__debug__" : Str)) = false := by decide) (hd2 : (x == ("__classdict__" : Str)) = false := by decide)
    (hb : attributeBase (.Name x p2) f X.env (eval (.Name x p2) X.env) = eval (.Name x p2) X.env := by rfl) (hg : Gl X "len" := by rfl)
    (he : starEach (.Attribute (.Name x p2) f p :: []) X.env = (false, eval (.Attribute (.Name x p2) f p) X.env) :: starEach [] X.env := by rfl) (hpl : (backTo pos (starEach [] X.env)).any (·.1) = false := by rfl) : JE X W (.Call (.Name "len" py) [.Attribute (.Name x p2) f p] [] pos) s (.ok (.int xs.length)) s :=
  je_of (pe_callB call_len_seq hg hm PySem.boot_len (pa_cons (pe_fld (pe_var hN hv hd1 hd2) hb) pa_nil he) (by decide) (by decide) he hpl) fun as B H σ ok Q q => by
    obtain ⟨a, dx, gs, v1, _, hH, hgs⟩ := ins_of ok hi hc
    obtain ⟨v, hlk, al, hal, ev⟩ := hgs.get hf
    cases ev
    obtain ⟨vs, h1, h2⟩ := ok.cs.2 jl al _ hal hl
    exact ⟨.ref a, v1, a, C, dx, gs, _, rfl, hH, c, n, hlk, _, _, rfl, .inl (.inl (.inl h1)), by rw [h2.length]; exact q _ B H (Ext.refl ..) ok (.int _)⟩
/-- o.f = e, a value -/
theorem js_fld (i : Nat) {j : Nat} (c : Cls X.K C) (n : NoAttr X.K C f) (he : JE X WN e s (.ok d) s1) (hP : P.nx ⟨l, cl⟩) (hsl : s1.sl = l := by (first | rfl | exact rfl)) (hi : s1.sl[i]? = some (.c j) := by rfl) (hc : s1.cl[j]? = some (.ins C fs) := by rfl) (hcl : s1.cl.set j (.ins C (putS f (.d d) fs)) = cl := by rfl) (hn : fs.length < 1000 := by exact of_decide_eq_true rfl) (hN : X.N[i]? = some x := by rfl) (hv : Vis X.env.scope x := by first | exact Or.inl rfl | exact Or.inr (Or.inl rfl) | exact Or.inr (Or.inr rfl)) (hd1 : (x == ("__debug__" : Str)) = false := by decide) (hd2 : (x == ("__classdict__" : Str)) = false := by decide)
    (hs : swapsWith e (some (.Attribute (.Name x p2) f pos')) pos.line X.env = pure false := by rfl) : JS X W (.Assign [.Attribute (.Name x p2) f pos'] e pos) s P :=
  js_of (ps_fld (pe_var hN hv hd1 hd2) pe_w hs) fun as B H σ ok Dn fit => Ok.one he ok fun v B1 H1 x1 o1 r1 => by
    obtain ⟨a, dx, gs, v1, ha, hH, hg⟩ := ins_of o1 hi hc
    obtain ⟨o2, x2⟩ := o1.wr (o := .ins C dx (putF f v gs)) (c' := .ins C (putS f (.d d) fs)) ha hc True.intro ⟨dx, _, upd_same, (hg.put (x := .d d) ⟨v, rfl, r1⟩).1, (hg.put (x := .d d) ⟨v, rfl, r1⟩).2⟩
    rw [hcl] at o2
    rw [← hsl] at hP
    exact ⟨.ref a, v1, a, C, dx, gs, rfl, hH, c, n, by rw [hg.len]; exact hn, fit.nx as _ _ σ _ (x1.trans x2) o2 hP⟩
/-- o.f.append(e), o.f a list that is a cell -/
theorem js_appF (i : Nat) {j jl : Nat} (c : Cls X.K C) (n : NoAttr X.K C f) (he : JE X WN e s (.ok d) s1) (hlen : xs.length < sizeLine) (hP : P.nx ⟨l, cl⟩) (hsl : s1.sl = l := by rfl) (hi : s.sl[i]? = some (.c j) := by rfl) (hc : s.cl[j]? = some (.ins C fs) := by rfl) (hf : fs.lookup f = some (.c jl) := by rfl) (hl0 : ∃ zs, s.cl[jl]? = some (.lst zs) := by exact ⟨_, rfl⟩) (hl : s1.cl[jl]? = some (.lst xs) := by rfl) (hcl : s1.cl.set jl (.lst (xs ++ [d])) = cl := by rfl)
    (hN : X.N[i]? = some x := by rfl) (hv : Vis X.env.scope x := by first | exact Or.inl rfl | exact Or.inr (Or.inl rfl) | exact Or.inr (Or.inr rfl)) (hd1 : (x == ("__debug__" : Str)) = false := by decide) (hd2 : (x == ("__classdict__" : Str)) = false := by decide)
    (hb : attributeBase (.Name x p2) f X.env (eval (.Name x p2) X.env) = eval (.Name x p2) X.env := by rfl)
    (hbase : attributeBase (.Attribute (.Name x p2) f py) "append" X.env (eval (.Attribute (.Name x p2) f py) X.env) = eval (.Attribute (.Name x p2) f py) X.env := by rfl)
    (hfew : ((backTo p (starEach (e :: []) X.env)).all (fun x => !x.1) && (backToKw p (keywordEach [] X.env)).all (fun x => x.1.isSome)
      && decide ((e :: []).length + ([] : List Keyword).length + (if ([] : List Keyword).isEmpty then 0 else 1) < 30)) = true := by rfl)
    (hline : (apos.endLine == p.line) = true := by rfl) (hs : starEach (e :: []) X.env = (false, eval e X.env) :: starEach [] X.env := by rfl) (hplain : (backTo p (starEach [] X.env)).any (·.1) = false := by rfl)
    (hsw : swapsWith (.Call (.Attribute (.Attribute (.Name x p2) f py) "append" apos) [e] [] p) none pos.line X.env = pure false := by rfl) :
    JS X W (.Expr (.Call (.Attribute (.Attribute (.Name x p2) f py) "append" apos) [e] [] p) pos) s P :=
  js_of (ps_expr (pe_bm PySem.F.plainAttrs_list PySem.F.slot_list_append PySem.F.type_list_append mt_append (pe_fld (pe_var hN hv hd1 hd2) hb) (pa_cons pe_w pa_nil hs) hbase hfew hline hs hplain) hsw) fun as B H σ ok Dn fit => by
    obtain ⟨a, dx, gs, v1, _, hH, hgs⟩ := ins_of ok hi hc
    obtain ⟨v, hlk, al, hal, ev⟩ := hgs.get hf
    cases ev
    obtain ⟨zs, hz⟩ := hl0
    obtain ⟨us, hu, _⟩ := ok.cs.2 jl al _ hal hz
    refine ⟨.ref a, v1, a, C, dx, gs, _, rfl, hH, c, n, hlk, .inl ⟨rfl, _, .inl (.inl hu)⟩, Ok.one he ok fun v B1 H1 x1 o1 r1 => ?_⟩
    obtain ⟨vs, hH, hv⟩ := o1.cs.2 jl al _ hal hl
    obtain ⟨o2, x2⟩ := o1.wr (o := .lst (vs ++ [v])) (c' := .lst (xs ++ [d])) hal hl True.intro ⟨_, upd_same, hv.append (.cons r1 .nil)⟩
    rw [hcl] at o2
    rw [← hsl] at hP
    exact ⟨al, vs, v, rfl, rfl, hH, by rw [hv.length]; exact hlen, fit.nx as _ _ σ _ (x1.trans x2) o2 hP⟩
/-- the list o.f is a value from now on -/
theorem jb_freezeF (i j jl : Nat) (f : Str) (h : JB X W sts ⟨s.sl, cl⟩ P) (hi : s.sl[i]? = some (.c j) := by rfl) (hc : s.cl[j]? = some (.ins C fs) := by rfl) (hf : fs.lookup f = some (.c jl) := by rfl) (hne : j ≠ jl := by decide) (hl : s.cl[jl]? = some (.lst xs) := by rfl) (hcl : (s.cl.set jl .dead).set j (.ins C (putS f (.d (.lst xs)) fs)) = cl := by rfl) : JB X W sts s P := fun as B H σ ok Dn fit => by
  obtain ⟨a, dx, gs, v1, ha, hH, hgs⟩ := ins_of ok hi hc
  obtain ⟨v, hlk, al, hal, ev⟩ := hgs.get hf
  cases ev
  obtain ⟨vs, h1, hv⟩ := ok.cs.2 jl al _ hal hl
  obtain ⟨o1, x1⟩ := ok.freeze hal hl True.intro h1
  have hg1 : FsOk X.K (upd B al (.lst vs)) as gs fs := ⟨hgs.1, fun i x hx => (hgs.2 i x hx).mono x1.b ⟨[], by simp⟩⟩
  have hg2 : FsOk X.K (upd B al (.lst vs)) as gs (putS f (.d (.lst xs)) fs) := hg1.tell (fun v e => by
    rw [hlk] at e
    cases e
    exact ⟨_, rfl, .lst upd_same (hv.mono x1.b)⟩) (by rw [hf]; rfl)
  have hlen := o1.cs.1
  have hj : j < s.cl.length := (List.getElem?_eq_some_iff.mp hc).1
  refine h as _ H σ ⟨o1.sm, o1.nd, o1.ht, fun j' a' c' e1 e2 e3 => ?_, ⟨?_, fun j' a' c' e1 e2 => ?_⟩, o1.ln, o1.sl⟩ Dn (fit.on x1)
  · dsimp only at e2
    rw [← hcl] at e2
    by_cases e : j' = j
    · subst e
      refine o1.nb j' a' (.ins C fs) e1 ?_ True.intro
      dsimp only
      rw [List.getElem?_set_ne (Ne.symm hne)]
      exact hc
    · rw [List.getElem?_set_ne (Ne.symm e)] at e2
      exact o1.nb j' a' c' e1 e2 e3
  · dsimp only at hlen ⊢
    rw [← hcl, List.length_set]
    exact hlen
  · dsimp only at e2
    rw [← hcl] at e2
    by_cases e : j' = j
    · subst e
      rw [List.getElem?_set_self (by rw [List.length_set]; exact hj)] at e2
      cases e2
      rw [ha] at e1
      cases e1
      exact ⟨dx, gs, hH, hg2.1, hg2.2⟩
    · rw [List.getElem?_set_ne (Ne.symm e)] at e2
      exact o1.cs.2 j' a' c' e1 e2
/-- range(lo, hi, c) -/
theorem ji_range3 {lo hi : Int} {cc n : Nat} {tg : Expr} (hm : X.mg "range" = none) (h : JE X WN a s (.ok (.int lo)) s1) (h' : JE X WN b s1 (.ok (.int hi)) s2) (h3 : JE X WN c s2 (.ok (.int (cc : Nat))) s3) (hR : RgC lo hi (cc : Nat) n) (hg : Gl X "range" := by rfl)
    (e1 : starEach (c :: []) X.env = (false, eval c X.env) :: starEach [] X.env := by rfl) (e2 : starEach (b :: [c]) X.env = (false, eval b X.env) :: starEach [c] X.env := by rfl) (e3 : starEach (a :: [b, c]) X.env = (false, eval a X.env) :: starEach [b, c] X.env := by rfl)
    (hpl : (backTo pos (starEach [b, c] X.env)).any (·.1) = false := by rfl) : JI X tg (.Call (.Name "range" p) [a, b, c] [] pos) s ((List.range n).map fun i : Nat => D.int (lo + (i : Int) * (cc : Int))) s3 :=
  fun as B H σ ok R q => wI_of (pi_range3 hg hm (pa_cons pe_w (pa_cons pe_w (pa_cons pe_w pa_nil e1) e2) e3) e3 hpl) (h as B H σ ok _ fun x B1 H1 x1 o1 r1 => h' as B1 H1 σ o1 _ fun y B2 H2 x2 o2 r2 => h3 as B2 H2 σ o2 _ fun z B3 H3 x3 o3 r3 => by
    cases r1; cases r2; cases r3
    refine ⟨lo, hi, _, n, rfl, hR, q _ B3 H3 ((x1.trans x2).trans x3) o3 ?_⟩
    have len : ((List.range n).map fun i : Nat => D.int (lo + (i : Int) * (cc : Int))).length = n := by rw [List.length_map, List.length_range]
    refine ⟨fun i H hi _ => by rw [len] at hi; exact hi, fun H _ => by rw [len]; exact Nat.le_refl _, fun i H v H' hi _ y => ?_⟩
    rw [len] at hi
    obtain ⟨e1, e2⟩ := y
    subst e2
    exact ⟨e1, _, by rw [List.getElem?_map, List.getElem?_range hi]; rfl, .int _⟩)
/-! ### methods -/
structure MtC (P : Program) (w : World) (K : PySem.W.Frag) (mg : Str → Option Value) (base : Heap) (C : Addr) (x : Str) (n m k : Nat) (pre : List Sl → List Cl → Res → List Cl → Prop) : Prop where
  ex : ∃ (f : Addr) (fd : FuncData) (ps : List Str), ps.length = n ∧ FnOk P w K mg base (L2.CX P w) k f fd ps (spC K m pre) ∧ Meth K C x f ∧ Binds K fd ps []
theorem je_meth (i : Nat) {V : WX} {pl : Sem Bool} {j0 n m j : Nat} {pre : List Sl → List Cl → Res → List Cl → Prop} {cl' : List Cl} (K : Cok X V k) (c : Cls X.K C) (F : MtC X.prog X.w X.K X.mg X.base C y n m j pre) (hk : j ≤ k) (ha : JA X (e :: es) s sls s1) (hp : pre (.c j0 :: sls) (s1.cl.take m) (.ok d) cl') (hi : s.sl[i]? = some (.c j0) := by rfl) (hc : s.cl[j0]? = some (.ins C fs) := by rfl) (hf : fs.lookup y = none := by rfl) (hj0 : j0 < m := by decide) (hm : m ≤ s1.cl.length := by exact of_decide_eq_true rfl) (hb1 : (s1.cl.take m).all (·.below m) = true := by rfl) (hb2 : cl'.all (·.below m) = true := by rfl) (hb3 : sls.all (·.below m) = true := by rfl)
    (hcl : cl' ++ s1.cl.drop m = cl := by exact rfl) (hN : X.N[i]? = some x := by rfl) (hv : Vis X.env.scope x := by first | exact Or.inl rfl | exact Or.inr (Or.inl rfl) | exact Or.inr (Or.inr rfl)) (hd1 : (x == ("__debug__" : Str)) = false := by decide) (hd2 : (x == ("__classdict__" : Str)) = false := by decide)
    (hst : starEach (e :: es) X.env = (false, eval e X.env) :: starEach es X.env := by rfl) (hpl : (backTo pos (starEach es X.env)).any (·.1) = false := by rfl)
    (ht : eval (.Call (.Attribute (.Name x p2) y apos) (e :: es) [] pos) X.env = (do
      let ov ← eval (.Name x p2) X.env
      standAt apos.atName
      let (f, first) ← holding [ov] (getMethod ov y pl)
      callWith pos f first (backTo pos (starEach (e :: es) X.env)) (backToKw pos (keywordEach [] X.env))) := by rfl) :
    JE X W (.Call (.Attribute (.Name x p2) y apos) (e :: es) [] pos) s (.ok d) ⟨s1.sl, cl⟩ := fun as B H σ ok Q q => by
  obtain ⟨g, fd, ps, hn, hfn, hmt, hb⟩ := F.ex
  refine wE_of (pe_meth (E := fun _ _ _ => False) (pe_var hN hv hd1 hd2) c hmt hfn (K.hr.mono hk) hb .nil (passes_call K.tk fun _ _ _ _ z => z.elim) pa_w hst hpl ht) ?_
  obtain ⟨a, dx, gs, v1, haj, hH, hgs⟩ := ins_of ok hi hc
  refine ⟨.ref a, v1, a, dx, gs, rfl, hH, hgs.no hf, ha as B H σ ok _ fun vs B1 H1 x1 o1 r1 => ?_⟩
  have hl := o1.cs.1
  have same : ∀ j, j < m → (as.take m)[j]? = as[j]? := fun j hj => by rw [List.getElem?_take, if_pos hj]
  have o0 : Ok X.K (as.take m) B1 H1 ((.ref a :: vs).map some) ⟨.c j0 :: sls, s1.cl.take m⟩ := by
    refine ⟨o1.sm, o1.nd.sublist (List.take_sublist _ _), fun a ha => o1.ht a (List.mem_of_mem_take ha), fun j a d h1 h2 h3 => ?_, ⟨by simp [hl], fun j a d h1 h2 => ?_⟩, by rw [List.length_map, List.length_cons, List.length_cons, r1.length], fun i z hz => ?_⟩
    · dsimp only at h2
      rw [List.getElem?_take] at h1 h2
      split at h1
      · rename_i hj
        rw [if_pos hj] at h2
        exact o1.nb j a d h1 h2 h3
      · cases h1
    · dsimp only at h2
      have hbd : d.below m = true := List.all_eq_true.mp hb1 d (List.mem_of_getElem? h2)
      rw [List.getElem?_take] at h1 h2
      split at h1
      · rename_i hj
        rw [if_pos hj] at h2
        exact (o1.cs.2 j a d h1 h2).cut hbd same
      · cases h1
    · cases i with
      | zero =>
        have hz : some (Sl.c j0) = some z := hz
        cases hz
        exact ⟨a, by rw [same j0 hj0]; exact haj, rfl⟩
      | succ i =>
        have hz : sls[i]? = some z := hz
        exact (r1.get i z hz).cut (List.all_eq_true.mp hb3 z (List.mem_of_getElem? hz)) same
  refine ⟨as.take m, B1, .c j0 :: sls, s1.cl.take m, .ok d, cl', by rw [List.append_nil]; exact o0, by rw [List.length_take]; omega, hp, ?_⟩
  intro v as' B' H' c y o hc rv
  obtain ⟨x2, o2⟩ := ok_back o1 hm y o (by rw [hc]; exact hb2)
  rw [hc, hcl] at o2
  exact q v B' H' (x1.trans x2) o2 rv
/-! ### making -/
theorem Ok.adoptC {K : PySem.W.Frag} {as : List Addr} {B H : Hp} {σ : L2.St} {p : Addr} {c : Cl} (h : Ok K as B H σ s) (hp : p ∉ as) (hB : B p = Option.none) (hH : H p ≠ Option.none) (hc : ClOk K B (as ++ [p]) H p c) : Ok K (as ++ [p]) B H σ ⟨s.sl, s.cl ++ [c]⟩ := by
  have hl := h.cs.1
  have split : ∀ {j : Nat} {a : Addr} {d : Cl}, (as ++ [p])[j]? = some a → (s.cl ++ [c])[j]? = some d → (as[j]? = some a ∧ s.cl[j]? = some d) ∨ (a = p ∧ d = c) := fun {j a d} h1 h2 => by
    by_cases hj : j < as.length
    · rw [List.getElem?_append_left hj] at h1
      rw [List.getElem?_append_left (by omega)] at h2
      exact .inl ⟨h1, h2⟩
    · rw [List.getElem?_append_right (by omega)] at h1
      rw [List.getElem?_append_right (by omega)] at h2
      rw [hl] at h1
      cases e : j - s.cl.length with
      | zero => rw [e] at h1 h2; simp at h1 h2; exact .inr ⟨h1.symm, h2.symm⟩
      | succ n => rw [e] at h1; simp at h1
  refine ⟨h.sm, ?_, fun a ha => ?_, fun j a d h1 h2 h3 => ?_, ⟨by simp [hl], fun j a d h1 h2 => ?_⟩, h.ln, fun i x hx => (h.sl i x hx).mono (fun _ _ e => e) ⟨[p], rfl⟩⟩
  · rw [List.nodup_append]
    refine ⟨h.nd, by simp, fun a ha b hb => ?_⟩
    rw [List.mem_singleton.mp hb]
    exact fun z => hp (by rw [← z]; exact ha)
  · rcases List.mem_append.mp ha with ha | ha
    · exact h.ht a ha
    · rw [List.mem_singleton.mp ha]; exact hH
  · rcases split h1 h2 with ⟨h1, h2⟩ | ⟨rfl, rfl⟩
    · exact h.nb j a d h1 h2 h3
    · exact hB
  · rcases split h1 h2 with ⟨h1, h2⟩ | ⟨rfl, rfl⟩
    · exact (h.cs.2 j a d h1 h2).mono (fun _ _ e => e) ⟨[p], rfl⟩ fun _ u e => e
    · exact hc
theorem Ok.grow {K : PySem.W.Frag} {as : List Addr} {B H H' : Hp} {σ : L2.St} (h : Ok K as B H σ s) (g : ∀ b o, H b = some o → H' b = some o) : Ok K as B H' σ s :=
  ⟨fun b o e => g b o (h.sm b o e), h.nd, fun a ha => by
    cases q : H a with
    | none => exact absurd q (h.ht a ha)
    | some o => rw [g a o q]; exact fun z => (nomatch z), h.nb, ⟨h.cs.1, fun j a c h1 h2 => (h.cs.2 j a c h1 h2).mono (fun _ _ e => e) ⟨[], by simp⟩ fun _ o e => g a o e⟩, h.ln, h.sl⟩
/-- __init__(self, v): self.f = v; self.g = [] -/
def spInit (C : Addr) (f g : Str) : Sp := fun vs H Q _ => ∃ (x dx : Addr) (v : V), vs = [.ref x, v] ∧ H x = some (.ins C dx []) ∧
  ∀ (q : Addr) (H' : Hp), q ≠ x → H q = Option.none → H' q = some (.lst []) → H' x = some (.ins C dx [(f, v), (g, .ref q)]) → (∀ b o, H b = some o → b ≠ x → H' b = some o) → Q .non H'
structure MkM (P : Program) (w : World) (K : PySem.W.Frag) (mg : Str → Option Value) (base : Heap) (x : Str) (C : Addr) (f g : Str) (k : Nat) : Prop where
  mak : ∃ (h : Addr) (fd : FuncData) (ps : List Str), Mk K C h ∧ FnOk P w K mg base (L2.CX P w) k h fd ps (spInit C f g) ∧ Binds K fd ps []
  cl : Cls K C
  nf : NoAttr K C f
  ng : NoAttr K C g
  mg : mg x = some (.ref C)
  ne : f ≠ g
/-- x = C(e): the list, then the instance, are new cells -/
theorem js_make (i : Nat) {j : Nat} {f g : Str} (K : Cok X W k) (M : MkM X.prog X.w X.K X.mg X.base y C f g j) (hk : j + 1 ≤ k) (he : JE X WN e s (.ok d) s1) (hP : P.nx ⟨l, cl⟩) (hl : s1.sl.set i (.c (s1.cl.length + 1)) = l := by rfl) (hcl : s1.cl ++ [.lst [], .ins C [(f, .d d), (g, .c s1.cl.length)]] = cl := by rfl) (hN : X.N[i]? = some x := by rfl) (hx : Loc X.env.scope x := by first | exact .inl rfl | exact .inr rfl) (hn : i < s1.sl.length := by exact of_decide_eq_true rfl) (hs : swapsWith (.Call (.Name y p) [e] [] p2) (some (.Name x pos')) pos.line X.env = pure false := by rfl) (hf : X.fn x = true ∨ X.env.scope.names.lookup x = some .local := by first | exact .inl rfl | exact .inr rfl)
    (hg : Gl X y := by rfl) (hdb : (y == ("__debug__" : Str)) = false := by decide) (hse : starEach (e :: []) X.env = (false, eval e X.env) :: starEach [] X.env := by rfl) (hpl : (backTo p2 (starEach [] X.env)).any (·.1) = false := by rfl) :
    JS X W (.Assign [.Name x pos'] (.Call (.Name y p) [e] [] p2) pos) s P := by
  obtain ⟨h0, fd, ps, mk, hfn, hb⟩ := M.mak
  exact js_of (ps_set K.nd hN hx (pe_make (E := fun _ _ _ => False) mk hfn (K.hr.mono hk) hg M.mg hb .nil (passes_call K.tk fun _ _ _ _ z => z.elim) (pa_cons pe_w pa_nil hse) hdb hse hpl) hs hf) fun as B H σ ok Dn fit => Ok.one he ok fun v B1 H1 x1 o1 r1 => by
    intro z dz hz hdz hne
    refine ⟨z, dz, v, rfl, upd_same, fun q H' hq hqn h1 h2 h3 => ⟨rfl, ?_⟩⟩
    have hqd : q ≠ dz := fun e => by
      rw [upd_ne hq, e, upd_same] at hqn
      cases hqn
    rw [upd_ne hq, upd_ne hqd] at hqn
    have grow : ∀ b o, H1 b = some o → H' b = some o := fun b o e => by
      have n1 : b ≠ z := ne_of_none e hz
      have n2 : b ≠ dz := ne_of_none e hdz
      exact h3 b o (by rw [upd_ne n1, upd_ne n2]; exact e) n1
    have o2 := o1.grow grow
    have hl1 := o1.cs.1
    have qa : q ∉ as := fun e => o1.ht q e hqn
    have za : z ∉ as := fun e => o1.ht z e hz
    have o3 := o2.adoptC (p := q) (c := .lst []) qa (o1.sm.free hqn) (ne_none h1) ⟨[], h1, .nil⟩
    have atq : ((as ++ [q]) ++ [z])[s1.cl.length]? = some q := by
      rw [List.append_assoc, List.getElem?_append_right (by omega), hl1, Nat.sub_self]
      rfl
    have o4 := o3.adoptC (p := z) (c := .ins C [(f, .d d), (g, .c s1.cl.length)]) (fun e => by
      rcases List.mem_append.mp e with e | e
      · exact za e
      · exact hq (List.mem_singleton.mp e).symm) (o1.sm.free hz) (ne_none h2) ⟨dz, _, h2, rfl, fun i y hy => by
        match i, hy with
        | 0, hy => cases hy; exact ⟨v, rfl, r1⟩
        | 1, hy => cases hy; exact ⟨q, atq, rfl⟩⟩
    have o5 := o4.store (i := i) (o := some (.ref z)) (x := .c (s1.cl.length + 1)) hn ⟨z, by
      rw [List.getElem?_append_right (by rw [List.length_append]; show as.length + 1 ≤ _; omega), List.length_append]
      have : s1.cl.length + 1 - (as.length + [q].length) = 0 := by show s1.cl.length + 1 - (as.length + 1) = 0; omega
      rw [this]
      rfl, rfl⟩
    dsimp only at o5
    have o6 : Ok X.K ((as ++ [q]) ++ [z]) B1 H' (σ.set i (some (.ref z))) ⟨l, cl⟩ := by
      have e : s1.cl ++ [Cl.lst []] ++ [Cl.ins C [(f, Sl.d d), (g, Sl.c s1.cl.length)]] = cl := by rw [← hcl, List.append_assoc]; rfl
      rw [hl, e] at o5
      exact o5
    refine fit.nx _ B1 H' _ _ (x1.trans ⟨fun _ _ e => e, fun a o _ e => grow a o e, fun a e _ _ => e, ⟨[q, z], by rw [List.append_assoc]; rfl, fun a ha => ?_⟩, fun a ha => ?_⟩) o6 hP
    · rcases List.mem_cons.mp ha with e | ha
      · rw [e]; exact hqn
      · rw [List.mem_singleton.mp ha]; exact hz
    · cases e : H1 a with
      | none => exact absurd e ha
      | some o => rw [grow a o e]; exact fun z => nomatch z
end
section
variable {Pg : Program} {w : World} {K : PySem.W.Frag} {mg : Str → Option Value} {base : Heap} {x : Str} {st : Stmt} {k : Nat}
theorem mt_okC {C : Addr} {qual : Str} {f : Addr} {fd : FuncData} {N ps : List Str} {m : Nat} {pre : List Sl → List Cl → Res → List Cl → Prop} (F : Fun K x qual st f fd) (S : FnScope N ps (defScope st)) (hb : Binds K fd ps []) (hm : Meth K C x f) (hlen : ∀ sls cl r cl', pre sls cl r cl' → sls.length = ps.length) (hN : ps.length ≤ N.length := by (show _ ≤ _; decide))
    (body : ∀ (cdv : Value) (A : Around) (outer : List Env) (s : Shared) (H : Hp) (E : XK), Cok (cxOf (L2.CX Pg w) Pg w K mg base N qual (defScope st) f cdv A outer s H E) (fun cls d _ H => E cls d H) k → ∀ sls cl r cl', cl.length = m → pre sls cl r cl' →
      JB (cxOf (L2.CX Pg w) Pg w K mg base N qual (defScope st) f cdv A outer s H E) (fun cls d _ H => E cls d H) (defBody st) ⟨slC N sls, cl⟩ (PoC m r cl')) : MtC Pg w K mg base C x ps.length m (k + 1) pre where
  ex := ⟨f, fd, ps, rfl, F.okX S (fun vs H Q E h => by
      obtain ⟨as, B, sls, cl, r, cl', o, _, hp, _⟩ := h
      have ln := o.ln
      simp at ln
      rw [ln]
      exact hlen _ _ _ _ hp) (fun cdv A outer s H vs Q E hr h => by
      obtain ⟨as, B, sls, cl, r, cl', o, hml, hp, q⟩ := h
      refine ⟨_, pss_w, ?_⟩
      have C : Cok (cxOf (L2.CX Pg w) Pg w K mg base N qual (defScope st) f cdv A outer s H E) (fun cls d _ H => E cls d H) k := ⟨hr, takes_of rfl rfl rfl rfl, rfl, passes_of rfl, S.nd⟩
      refine body cdv A outer s H E C sls cl r cl' hml hp as B H _ (ok_startC o (by rw [hlen _ _ _ _ hp]; exact hN)) _ ⟨?_, ?_, ?_, ?_, ?_⟩
      · intro as' B' H' σ' s' y o' z
        obtain ⟨z', zc⟩ := z
        subst z'
        exact q .non as' B' H' s'.cl y o'.none zc .non
      · intro as' B' H' σ' s' v d y o' rv z
        obtain ⟨z', zc⟩ := z
        subst z'
        exact q v as' B' H' s'.cl y o'.none zc rv
      · intro as' B' H' σ' s' y o' z; exact z.elim
      · intro as' B' H' σ' s' y o' z; exact z.elim
      · intro as' B' H' σ' s' c y o' z
        obtain ⟨z', zc⟩ := z
        subst z'
        exact q as' B' H' s'.cl y o'.none zc), hm, hb⟩
end
end DL
set_option Elab.async false
set_option linter.all false
set_option maxRecDepth 100000
set_option maxHeartbeats 4000000
set_option autoImplicit true
/-! DLo: how many a set holds; what is sorted -/
namespace DL
open PySem PySem.Spec PyProof.Rows L2
theorem nd_len {α : Type} [DecidableEq α] : ∀ {L M : List α}, L.Nodup → (∀ x ∈ L, x ∈ M) → L.length ≤ M.length
  | [], _, _, _ => Nat.zero_le _
  | a :: L, M, h, hs => by
    rw [List.nodup_cons] at h
    have hm := hs a List.mem_cons_self
    have := nd_len (L := L) (M := M.erase a) h.2 fun x hx => (List.mem_erase_of_ne (fun e => h.1 (by rw [← e]; exact hx))).mpr (hs x (List.mem_cons_of_mem _ hx))
    rw [List.length_erase_of_mem hm] at this
    have hp := List.length_pos_of_mem hm
    rw [List.length_cons]
    omega
/-- tuples of ints, as their places and what they hold -/
theorem reps_tups {K : PySem.W.Frag} {B : Hp} : ∀ {ls : List (List Int)} {vs : List V}, Reps K B vs (ls.map fun s => D.tup (s.map .int)) → ∃ ks : List (Addr × List Int), vs = ks.map (fun p => V.ref p.1) ∧ ks.map (·.2) = ls ∧ ∀ p ∈ ks, SqT K B p.1 (p.2.map V.int)
  | [], _, h => by cases h; exact ⟨[], rfl, rfl, fun _ z => nomatch z⟩
  | s :: ls, _, h => by
    cases h with
    | cons h1 h2 =>
      obtain ⟨ks, e1, e2, h3⟩ := reps_tups h2
      cases h1 with
      | @tup p us _ sq hr =>
        have e := hr.ints
        subst e
        refine ⟨(p, s) :: ks, by rw [e1]; rfl, by rw [← e2]; rfl, fun q hq => ?_⟩
        rcases List.mem_cons.mp hq with rfl | hq
        · exact sq
        · exact h3 q hq
def tLenSetT (K : PySem.W.Frag) (ta : TE) : TE := fun σ H Q => ta σ H fun x H1 => ∃ (l : Addr) (ks : List (Addr × List Int)), x = V.ref l ∧ SqL K H1 l (ks.map fun p => V.ref p.1) ∧ (∀ p ∈ ks, SqT K H1 p.1 (p.2.map V.int)) ∧ ks.length < 64 ∧ (ks.map (·.2)).Nodup ∧ Q (.int ks.length) H1
section
variable {X : Cx} {W : WX} {k : Nat} {e a b c : Expr} {es : List Expr} {s s' s1 s2 : A} {d da db : D} {xs ys : List D} {pos p2 p q : Pos}
theorem pe_lenSetT {ta : TE} (hc : X.calm = true) (hu : X.A.units + 64 < cLine) (hg : Gl X "len") (hm : X.mg "len" = none) (hg2 : Gl X "set") (hm2 : X.mg "set" = none) (ha : PE X a ta)
    (na : starEach [a] X.env = (false, eval a X.env) :: starEach [] X.env := by rfl) : PE X (.Call (.Name "len" p) [.Call (.Name "set" p2) [a] [] q] [] pos) (tLenSetT X.K ta) := by
  refine ⟨fun pins s σ H Q I h => ?_⟩
  refine Call_ (ld_blt I hg hm PySem.boot_len ?_)
  refine PyProof.Rows.callWith_builtin1 (PyProof.Rows.args_cons ?_ rfl) rfl rfl
  refine Call_ (ld_blt I hg2 hm2 PyProof.Rows.boot_set ?_)
  refine PyProof.Rows.callWith_type1 (PyProof.Rows.args_cons (thn (ha.run pins s σ H _ I h) fun v s1 ⟨x, H1, I1, r1, q1⟩ => PyProof.Rows.args_nil ?_) na) na rfl
  obtain ⟨l, ks, rfl, hq, hk, h1, hnd, q1⟩ := q1
  cases r1
  obtain ⟨its, r, pl, hz⟩ := I1.list hq
  refine call_set_tups (P := X.prog) (w := X.w) ks (I1.ok.hd hc) pl.isList (by simpa using refs_of_vals r) (fun p hp => I1.isT (hk p hp)) h1 (by omega) fun h' tk L es ep t R g hkeep => ?_
  refine PyProof.Rows.args_nil ?_
  obtain ⟨o, ho, hex, hd⟩ := R.ob
  have hlen : L.length = ks.length := by
    have a1 := nd_len R.nd fun x hx => by
      obtain ⟨p, hp, rfl⟩ := List.mem_map.mp hx
      have := g.sub p hp
      rw [List.take_length] at this
      exact List.mem_map.mpr ⟨p, this, rfl⟩
    have a2 := nd_len hnd fun x hx => by
      obtain ⟨p, hp, rfl⟩ := List.mem_map.mp hx
      exact g.all p (by rw [List.take_length]; exact hp)
    rw [List.length_map, List.length_map] at a1 a2
    omega
  have hsz := SetTR.size (s := { s1 with heap := h', toks := tk }) R
  have hfit := SetTR.fits (s := { s1 with heap := h', toks := tk }) R
  have I2 : Inv X pins σ H1 { s1 with heap := h', toks := tk } := I1.kept fun b o e => hkeep b o e
  refine PySem.call_len_set ho hex hd hfit (by omega) ⟨.int ks.length, H1, I2.tok _, ⟨_, by rw [hsz, hlen]⟩, q1⟩
/-- len(set(l)), l a list of tuples of ints, no two alike -/
theorem je_lenSetT {ls : List (List Int)} {V : WX} (C : Cok X V k) (hm : X.mg "len" = none) (hm2 : X.mg "set" = none) (ha : JE X W a s (.ok (.lst (ls.map fun s => D.tup (s.map .int)))) s1) (hl : ls.length < 64) (hnd : ls.Nodup) (hg : Gl X "len" := by rfl) (hg2 : Gl X "set" := by rfl)
    (na : starEach [a] X.env = (false, eval a X.env) :: starEach [] X.env := by rfl) : JE X W (.Call (.Name "len" p) [.Call (.Name "set" p2) [a] [] q] [] pos) s (.ok (.int ls.length)) s1 :=
  je_of (pe_lenSetT C.calm C.hr.units hg hm hg2 hm2 pe_w na) fun as B H σ ok Q q => Ok.one ha ok fun x B1 H1 x1 o1 r1 => by
    cases r1 with
    | lst h1 h2 =>
      obtain ⟨ks, e1, e2, h3⟩ := reps_tups h2
      subst e1 e2
      rw [List.length_map] at hl
      have q1 := q _ B1 H1 x1 o1 (.int _)
      rw [List.length_map] at q1
      exact ⟨_, ks, rfl, .inl (.inl (o1.sm _ _ h1)), fun p hp => same_t o1.sm (h3 p hp), hl, hnd, q1⟩
end
/-! ### sorted -/
theorem uniq {α : Type} {r : α → α → Prop} (anti : ∀ a b, r a b → r b a → a = b) : ∀ {l m : List α}, l.Perm m → l.Pairwise r → m.Pairwise r → l = m
  | [], m, p, _, _ => (List.Perm.eq_nil p.symm).symm
  | a :: l, [], p, _, _ => absurd p.length_eq (by simp)
  | a :: l, b :: m, p, h1, h2 => by
    have ea : a = b := by
      rcases List.mem_cons.mp (p.mem_iff.mp List.mem_cons_self) with e | ha
      · exact e
      · rcases List.mem_cons.mp (p.mem_iff.mpr List.mem_cons_self) with e | hb
        · exact e.symm
        · exact anti a b ((List.pairwise_cons.mp h1).1 b hb) ((List.pairwise_cons.mp h2).1 a ha)
    subst ea
    rw [uniq anti p.cons_inv (List.pairwise_cons.mp h1).2 (List.pairwise_cons.mp h2).2]
def prOf (h : Heap) : Value → Int × Int
  | .ref a => match h.get? a with
    | some o => (match o.data with
      | .seq its _ => (match its.toList with
        | [.int x _, .int y _] => (x, y)
        | _ => (0, 0))
      | _ => (0, 0))
    | none => (0, 0)
  | _ => (0, 0)
theorem prOf_ok {h : Heap} {v : Value} {x y : Int} (p : Srt.IsPair h v x y) : prOf h v = (x, y) := by
  obtain ⟨a, o, t, u, n, rfl, ho, _, hd⟩ := p
  unfold prOf
  simp only [ho, hd]
/-- not behind: by the first, then by the second -/
def lexLe (p q : Int × Int) : Prop := ¬ (q.1 < p.1 ∨ (q.1 = p.1 ∧ q.2 < p.2))
theorem lexLe_anti (p q : Int × Int) (h1 : lexLe p q) (h2 : lexLe q p) : p = q := by
  unfold lexLe at h1 h2
  exact Prod.ext (by omega) (by omega)
def rSortedPT (K : PySem.W.Frag) : List V → Hp → VK → Prop := fun vs H Q => ∃ (a : Addr) (xs : List V) (ps : List (Int × Int)), vs = [V.ref a] ∧ SqL K H a xs ∧ xs.length = ps.length ∧ (∀ (i : Nat) (x : V), xs[i]? = some x → ∃ t p, x = .ref t ∧ ps[i]? = some p ∧ SqT K H t [.int p.1, .int p.2]) ∧
  ∀ (ys : List V) (rs : List (Int × Int)) (q : Addr), ys.length = rs.length → (∀ (i : Nat) (y : V) (r : Int × Int), ys[i]? = some y → rs[i]? = some r → ∃ j : Nat, xs[j]? = some y ∧ ps[j]? = some r) → rs.Perm ps → rs.Pairwise lexLe → H q = none → Q (.ref q) (upd H q (.lst ys))
theorem cr_sortedPT {X : Cx} : CallR X (.builtin "sorted") (rSortedPT X.K) := by
  intro pins s σ H vs us Q I r h
  obtain ⟨a, xs, ps, rfl, hs, hlen, hx, q⟩ := h
  obtain ⟨its, rv, hl, hz⟩ := I.list hs
  rw [Vals.ref1 r]
  obtain ⟨e1, e2⟩ := refs_back rv fun x m => by
    obtain ⟨i, hi, e⟩ := List.getElem_of_mem m
    obtain ⟨t, p, e, _⟩ := hx i x (List.getElem?_eq_some_iff.mpr ⟨hi, e⟩)
    exact ⟨t, e⟩
  have hil : its.length = ps.length := by rw [← rv.length]; exact hlen
  have at_ : ∀ (i : Nat) (v : Value), its[i]? = some v → ∃ p, ps[i]? = some p ∧ Srt.IsPair s.heap v p.1 p.2 := fun i v hv => by
    have hx1 : xs[i]? = some (backV v) := by rw [e1, List.getElem?_map, hv]; rfl
    obtain ⟨t, p, e, hp, sq⟩ := hx i _ hx1
    obtain ⟨b, rfl⟩ := e2 v (List.mem_of_getElem? hv)
    have e : V.ref b = V.ref t := e
    have e : b = t := V.ref.inj e
    subst e
    obtain ⟨us, r2, ⟨o, ho, hc, n, hd⟩, _⟩ := I.tuple sq
    obtain ⟨u1, u2, rfl, ri, rj⟩ := vals2 r2
    obtain ⟨t1, rfl⟩ := ri
    obtain ⟨t2, rfl⟩ := rj
    exact ⟨p, hp, b, o, t1, t2, n, rfl, ho, hc, hd⟩
  have eps : its.map (prOf s.heap) = ps := by
    refine List.ext_getElem? fun i => ?_
    rw [List.getElem?_map]
    cases e : its[i]? with
    | none =>
      have : ps[i]? = none := by
        rw [List.getElem?_eq_none_iff] at e ⊢
        omega
      rw [this]
      rfl
    | some v =>
      obtain ⟨p, hp, ip⟩ := at_ i v e
      rw [hp]
      exact congrArg some (prOf_ok ip)
  refine SrtO.sorted_pairsO (k := prOf s.heap) hl.isList (by rw [← rv.length]; exact hz) (fun v hv => ?_) fun h' d out h1 h2 kp hd hn => ?_
  · obtain ⟨i, hi, e⟩ := List.getElem_of_mem hv
    obtain ⟨p, hp, ip⟩ := at_ i v (List.getElem?_eq_some_iff.mpr ⟨hi, e⟩)
    rw [prOf_ok ip]
    exact ip
  · have h3 : ∀ u ∈ out, ∃ a, u = Value.ref a := fun u hu => e2 u (h2.perm.mem_iff.mp hu)
    obtain ⟨n, hn⟩ := hn
    refine ⟨.ref d, upd H d (.lst (out.map backV)), I.laid (t' := s.toks) kp hd ⟨?_, out, n, vals_back h3, hn⟩, rfl, q _ (out.map (prOf s.heap)) d (by rw [List.length_map, List.length_map]) (fun i y rr hy hr => ?_) ?_ ?_ (I.hok.fresh hd)⟩
    · rw [List.length_map, h2.perm.length_eq, ← rv.length]
      exact hz
    · rw [List.getElem?_map] at hy hr
      cases e : out[i]? with
      | none => rw [e] at hy; cases hy
      | some u =>
        rw [e] at hy hr
        cases hy
        cases hr
        obtain ⟨j, hj, e3⟩ := List.getElem_of_mem (h2.perm.mem_iff.mp (List.mem_of_getElem? e))
        have e4 : its[j]? = some u := List.getElem?_eq_some_iff.mpr ⟨hj, e3⟩
        exact ⟨j, by rw [e1, List.getElem?_map, e4]; rfl, by rw [← eps, List.getElem?_map, e4]; rfl⟩
    · rw [← eps]
      exact h2.perm.map _
    · rw [List.pairwise_map]
      exact List.Pairwise.imp (fun {u v} h => by
        have := SrtO.lexB_no.mp h
        exact this) h1
theorem reps_idx {K : PySem.W.Frag} {B : Hp} : ∀ {ys : List V} {ds : List D}, ys.length = ds.length → (∀ (i : Nat) (y : V) (d : D), ys[i]? = some y → ds[i]? = some d → Rep K B y d) → Reps K B ys ds
  | [], [], _, _ => .nil
  | [], _ :: _, h, _ => by simp at h
  | _ :: _, [], h, _ => by simp at h
  | y :: ys, d :: ds, h, hr => .cons (hr 0 y d rfl rfl) (reps_idx (by simpa using h) fun i y d hy hd => hr (i + 1) y d hy hd)
def eI2 (p : Int × Int) : D := .tup [.int p.1, .int p.2]
section
variable {X : Cx} {W : WX} {k : Nat} {e a b c : Expr} {es : List Expr} {s s' s1 s2 : A} {d da db : D} {xs ys : List D} {pos p2 p q : Pos}
/-- sorted(l), l a list of pairs of ints: qs is what it comes to -/
theorem jf_sortedP {ps qs : List (Int × Int)} (hm : X.mg "sorted" = none) (ha : JE X WN a s (.ok (.lst (ps.map eI2))) s1) (hp : qs.Perm ps) (hs : qs.Pairwise lexLe) (hg : Gl X "sorted" := by rfl)
    (he : starEach (a :: []) X.env = (false, eval a X.env) :: starEach [] X.env := by rfl) (hpl : (backTo pos (starEach [] X.env)).any (·.1) = false := by rfl) : JF X (.Call (.Name "sorted" p) [a] [] pos) s (qs.map eI2) s1 :=
  jf_of (pe_callB cr_sortedPT hg hm (by decide +kernel) (pa_cons pe_w pa_nil he) (by decide) (by decide) he hpl) fun as B H σ ok Q q => Ok.one (W := WN) ha ok fun v B1 H1 x1 o1 r1 => by
    cases r1 with
    | @lst a0 vs _ h1 h2 =>
      have hl := h2.length
      rw [List.length_map] at hl
      refine ⟨a0, vs, ps, rfl, .inl (.inl (o1.sm _ _ h1)), hl, fun i x hx => ?_, fun ys rs q0 e1 e2 e3 e4 hq => ?_⟩
      · obtain ⟨d, hd, hr⟩ := h2.getV hx
        rw [List.getElem?_map] at hd
        cases e : ps[i]? with
        | none => rw [e] at hd; cases hd
        | some p =>
          rw [e] at hd
          have hd : eI2 p = d := Option.some.inj hd
          subst hd
          cases hr with
          | @tup t us _ sq hv =>
            have z := (show Reps X.K B1 us (([p.1, p.2] : List Int).map .int) from hv).ints
            subst z
            exact ⟨t, p, rfl, rfl, same_t o1.sm sq⟩
      · have er : rs = qs := uniq lexLe_anti (e3.trans hp.symm) e4 hs
        subst er
        refine Ok.newF x1 o1 hq (reps_idx (by rw [List.length_map]; exact e1) fun i y d hy hd => ?_) q
        rw [List.getElem?_map] at hd
        cases e : rs[i]? with
        | none => rw [e] at hd; cases hd
        | some r =>
          rw [e] at hd
          have hd : eI2 r = d := Option.some.inj hd
          subst hd
          obtain ⟨j, hj1, hj2⟩ := e2 i y r hy e
          obtain ⟨d2, hd2, hr⟩ := h2.getV hj1
          rw [List.getElem?_map, hj2] at hd2
          have hd2 : eI2 r = d2 := Option.some.inj hd2
          subst hd2
          exact hr
/-- sorted(l), l a list of ints -/
theorem jf_sortedI {ns ms : List Int} (hm : X.mg "sorted" = none) (ha : JE X WN a s (.ok (.lst (ns.map .int))) s1) (hp : ms.Perm ns) (hs : ms.Pairwise (· ≤ ·)) (hg : Gl X "sorted" := by rfl)
    (he : starEach (a :: []) X.env = (false, eval a X.env) :: starEach [] X.env := by rfl) (hpl : (backTo pos (starEach [] X.env)).any (·.1) = false := by rfl) : JF X (.Call (.Name "sorted" p) [a] [] pos) s (ms.map .int) s1 :=
  jf_of (pe_callB cr_sortedI hg hm (by decide +kernel) (pa_cons pe_w pa_nil he) (by decide) (by decide) he hpl) fun as B H σ ok Q q => Ok.one (W := WN) ha ok fun v B1 H1 x1 o1 r1 => by
    cases r1 with
    | @lst a0 vs _ h1 h2 =>
      have z := h2.ints
      subst z
      refine ⟨a0, ns, rfl, .inl (.inl (o1.sm _ _ h1)), fun ns' q0 e1 e2 hq => ?_⟩
      have er : ns' = ms := uniq (fun a b h1 h2 => Int.le_antisymm h1 h2) (e1.trans hp.symm) e2 hs
      subst er
      exact Ok.newF x1 o1 hq (Reps.of_ints _) q
end
end DL
set_option Elab.async false
set_option linter.all false
set_option maxRecDepth 100000
set_option maxHeartbeats 4000000
set_option autoImplicit true
/-! DLp: comprehensions over pairs -/
namespace DL
open PySem PySem.Spec PyProof.Rows L2
section
variable {X : Cx} {W : WX} {k : Nat} {e a b c iter elt : Expr} {s s' s1 s2 s3 : A} {d d' da db dc : D} {pos p2 p apos pos' px py pp : Pos} {x y : Str} {scope : Scope}
/-- [elt for x, y in l], x in slot i, y in slot j -/
theorem lc_map2 {α : Type} (i j : Nat) (lst : List α) {d1 d2 f : α → D} (C : Cok X W k) (hi : JI X (.Tuple [.Name x px, .Name y py] 0 pp) iter s (lst.map fun a => .tup [d1 a, d2 a]) s1)
    (hs : ∀ a ∈ lst, Blk X scope fun Y => Cok Y WN k → JE Y WN elt ⟨(s1.sl.set i (.d (d1 a))).set j (.d (d2 a)), s1.cl⟩ (.ok (f a)) ⟨(s1.sl.set i (.d (d1 a))).set j (.d (d2 a)), s1.cl⟩) (hlen : lst.length ≤ sizeLine := by assumption)
    (hblk : blkC X.N X.env.scope scope [(x, i), (y, j)] = true := by kernel_rfl) (hn : i < s1.sl.length := by exact of_decide_eq_true rfl) (hm : j < s1.sl.length := by exact of_decide_eq_true rfl) (hij : i ≠ j := by decide) (hNi : X.N[i]? = some x := by rfl) (hNj : X.N[j]? = some y := by rfl)
    (hloc : Blk X scope fun Y => Loc Y.env.scope x := by first | exact fun _ _ _ _ _ => Or.inl rfl | exact fun _ _ _ _ _ => Or.inr rfl) (hfn : Blk X scope fun Y => Y.fn x = true ∨ Y.env.scope.names.lookup x = some .local := by first | exact fun _ _ _ _ _ => .inr rfl | exact fun _ _ _ _ _ => .inl rfl)
    (hloc2 : Blk X scope fun Y => Loc Y.env.scope y := by first | exact fun _ _ _ _ _ => Or.inl rfl | exact fun _ _ _ _ _ => Or.inr rfl) (hfn2 : Blk X scope fun Y => Y.fn y = true ∨ Y.env.scope.names.lookup y = some .local := by first | exact fun _ _ _ _ _ => .inr rfl | exact fun _ _ _ _ _ => .inl rfl) :
    Lc X (.Tuple [.Name x px, .Name y py] 0 pp) iter elt [] scope [(x, i), (y, j)] (gTup X.K 2 (gCons (gName i) (gCons (gName j) gNil))) s (lst.map f) s1 := by
  have h := lc_mk (elt := elt) (ifs := []) hi (tgt_pair (K := X.K) hn hm hij) (blkOk_by hblk) (Nat.zero_le _) (fun s0 H0 C0 cl0 fp0 => pg_tup (C.blk s0 H0 C0 cl0 fp0).calm (pgs_cons (pg_name C.nd hNi (hloc s0 H0 C0 cl0 fp0) (hfn s0 H0 C0 cl0 fp0)) (pgs_cons (pg_name C.nd hNj (hloc2 s0 H0 C0 cl0 fp0) (hfn2 s0 H0 C0 cl0 fp0)) pgs_nil))) (fun j => (lst.take j).map f) (fun _ => s1.cl) rfl rfl (fun j hj => by
    rw [List.length_map, List.length_take]
    rw [List.length_map] at hj
    omega) (fun q d hd => by
    rw [List.getElem?_map] at hd
    cases eq : lst[q]? with
    | none => rw [eq] at hd; cases hd
    | some a =>
      rw [eq] at hd
      have hd' : D.tup [d1 a, d2 a] = d := Option.some.inj hd
      subst hd'
      refine ⟨(s1.sl.set i (.d (d1 a))).set j (.d (d2 a)), true, ⟨d1 a, d2 a, rfl, ?_⟩, rfl, fun _ => ⟨f a, fun s0 H0 C0 cl0 fp0 => hs a (List.mem_of_getElem? eq) s0 H0 C0 cl0 fp0 (C.blk s0 H0 C0 cl0 fp0), ?_⟩, fun z => nomatch z⟩
      · show (((s1.sl.set j .u).set i .u).set i (.d (d1 a))).set j (.d (d2 a)) = _
        rw [List.set_set, List.set_comm _ _ (Ne.symm hij), List.set_set]
      · rw [List.take_add_one, eq, List.map_append]
        rfl)
  rw [List.length_map, List.take_length] at h
  exact h
end
end DL
set_option Elab.async false
set_option linter.all false
set_option maxRecDepth 100000
set_option maxHeartbeats 4000000
set_option autoImplicit true
/-! DLq: l.remove(x) -/
namespace DL
open PySem PySem.Spec PyProof.Rows L2
section
variable {X : Cx} {W : WX} {k : Nat} {e : Expr} {s s' s1 : A} {P : Po} {d : D} {pos p2 p apos : Pos} {x : Str} {l : List Sl}
/-- l.remove(e), l a cell of whole numbers that has e -/
theorem js_rem (i j : Nat) {cl : List Cl} {ns : List Int} {n : Int} (C : Cok X W k) (he : JE X WN e s (.ok (.int n)) s1) (hmem : n ∈ ns) (hP : P.nx ⟨l, cl⟩) (hsl : s1.sl = l := by (first | (dsimp only [List.set, List.length_cons, List.length_nil, List.cons_append, List.nil_append, Nat.reduceAdd]; done) | (dsimp only [List.set, List.length_cons, List.length_nil, List.cons_append, List.nil_append, Nat.reduceAdd]; exact rfl) | exact rfl)) (hi : s.sl[i]? = some (.c j) := by rfl) (hc0 : ∃ zs, s.cl[j]? = some (.lst zs) := by exact ⟨_, rfl⟩) (hc : s1.cl[j]? = some (.lst (ns.map .int)) := by rfl) (hcl : s1.cl.set j (.lst ((ns.erase n).map .int)) = cl := by (first | (dsimp only [List.set, List.length_cons, List.length_nil, List.cons_append, List.nil_append, Nat.reduceAdd]; done) | (dsimp only [List.set, List.length_cons, List.length_nil, List.cons_append, List.nil_append, Nat.reduceAdd]; exact rfl) | exact rfl)) (hN : X.N[i]? = some x := by rfl)
    (hv : Vis X.env.scope x := by first | exact Or.inl rfl | exact Or.inr (Or.inl rfl) | exact Or.inr (Or.inr rfl)) (hd1 : (x == ("__debug__" : Str)) = false := by decide) (hd2 : (x == ("__classdict__" : Str)) = false := by decide)
    (hbase : attributeBase (.Name x p2) "remove" X.env (eval (.Name x p2) X.env) = eval (.Name x p2) X.env := by rfl)
    (hfew : ((backTo p (starEach (e :: []) X.env)).all (fun x => !x.1) && (backToKw p (keywordEach [] X.env)).all (fun x => x.1.isSome)
      && decide ((e :: []).length + ([] : List Keyword).length + (if ([] : List Keyword).isEmpty then 0 else 1) < 30)) = true := by rfl)
    (hline : (apos.endLine == p.line) = true := by rfl) (hs : starEach (e :: []) X.env = (false, eval e X.env) :: starEach [] X.env := by rfl) (hplain : (backTo p (starEach [] X.env)).any (·.1) = false := by rfl)
    (hsw : swapsWith (.Call (.Attribute (.Name x p2) "remove" apos) [e] [] p) none pos.line X.env = pure false := by rfl) :
    JS X W (.Expr (.Call (.Attribute (.Name x p2) "remove" apos) [e] [] p) pos) s P :=
  js_of (ps_expr (pe_remX C.calm C.tk (pe_var hN hv hd1 hd2) pe_w hbase hfew hline hs hplain) hsw) fun as B H σ ok Dn f => by
    obtain ⟨a, e1, ha⟩ := cell_of ok hi
    obtain ⟨zs, hz⟩ := hc0
    obtain ⟨us, hu, _⟩ := ok.cs.2 j a _ ha hz
    refine ⟨.ref a, e1, .inl ⟨rfl, _, .inl (.inl hu)⟩, Ok.one he ok fun v B1 H1 x1 o1 r1 => ?_⟩
    cases r1
    obtain ⟨vs, hH, hv⟩ := o1.cs.2 j a _ ha hc
    have ev := hv.ints
    subst ev
    obtain ⟨o2, x2⟩ := o1.wr (o := .lst ((ns.erase n).map V.int)) (c' := .lst ((ns.erase n).map .int)) ha hc True.intro ⟨_, upd_same, Reps.of_ints _⟩
    rw [hcl] at o2
    rw [← hsl] at hP
    exact ⟨a, ns, n, rfl, rfl, hH, fun _ => f.nx as _ _ σ _ (x1.trans x2) o2 hP, fun z => absurd hmem z⟩
end
end DL
set_option Elab.async false
set_option linter.all false
set_option maxRecDepth 100000
set_option maxHeartbeats 4000000
set_option autoImplicit true
/-! DLr: sorted of a tuple -/
namespace DL
open PySem PySem.Spec PyProof.Rows L2
/-- sorted(t), t a tuple of whole numbers -/
def rSortedTI (K : PySem.W.Frag) : List V → Hp → VK → Prop := fun vs H Q => ∃ (a : Addr) (ns : List Int), vs = [V.ref a] ∧ SqT K H a (ns.map V.int) ∧
  ∀ (ns' : List Int) (p : Addr), ns'.Perm ns → ns'.Pairwise (· ≤ ·) → H p = none → Q (.ref p) (upd H p (.lst (ns'.map V.int)))
section
variable {X : Cx}
theorem cr_sortedTI : CallR X (.builtin "sorted") (rSortedTI X.K) := by
  intro pins s σ H vs us Q I r h
  obtain ⟨a, ns, rfl, hs, q⟩ := h
  obtain ⟨its, rv, hl, hz⟩ := I.tuple hs
  rw [Vals.ref1 r]
  have hi := rv.ints
  have hz2 : its.length ≤ sizeLine := by rw [← rv.length]; exact hz
  obtain ⟨o, ho, hc, n, hd⟩ := hl
  refine Calls.call_function_entry kind_sorted plain_sorted entry_sorted (args_sorted1 _) ?_
  unfold Builtin.«sorted»
  refine wpAny_bind (m := checkCount "sorted" 1 1 _) (wpAny_pure ?_)
  refine wpAny_bind (wpAny_collect_seq a (.inr rfl) ho hc hd (fun h1 keep1 => ?_) (by simpa using hz2))
  have I1 : Inv X pins σ H { s with heap := h1, toks := s.toks } := I.kept fun b o e => keep1 b o e
  refine wpAny_bind (wpAny_newList ?_ (by simpa using hz2))
  have hoL : (h1.push (seqObj "list" its.toArray 0)).get? h1.objs.size = some (seqObj "list" its.toArray 0) := Heap.get?_push_size _ rfl
  refine wpAny_bind (wpAny_holding (wpAny_call_entry slot_list_sort ⟨_, hoL, rfl⟩ entry_list_sort (SrtO.list_sort_ord SrtO.swo_int hoL hz2 (fun h2 => SrtO.ints_sortable hi h2) fun out o1 o2 => ⟨_, rfl, ?_⟩) (args_list_sort _)))
  obtain ⟨k1, k2, k3⟩ := SrtO.ints_out hi o1 o2
  obtain ⟨ep, he'⟩ := PyProof.Rows.sortedHeap_at (vs := its) (out := out.toArray) hoL
  have hlen : ((out.map SrtO.iv).map V.int).length ≤ sizeLine := by
    rw [List.length_map, k2.length_eq]
    rw [List.length_map] at hz
    exact hz
  refine wpAny_pure ⟨_, rfl, ?_⟩
  refine ⟨.ref _, upd H h1.objs.size (.lst ((out.map SrtO.iv).map V.int)), I1.laid (t' := s.toks) (fun b u hb => ?_) (Nat.le_refl _) ⟨hlen, out, ep, vals_of_ints k1, he'⟩, rfl, q _ _ k2 k3 (I1.hok.fresh (Nat.le_refl _))⟩
  have hlt : b < h1.objs.size := Heap.lt_size hb
  rw [PyProof.Rows.sortedHeap_old (Nat.ne_of_lt hlt) (by rw [size_push']; exact Nat.lt_succ_of_lt hlt)]
  exact Heap.get?_push_of_some _ hb
theorem jf_sortedTI {W : WX} {a : Expr} {st s1 : A} {p pos : Pos} {ns ms : List Int} (hm : X.mg "sorted" = none) (ha : JE X WN a st (.ok (.tup (ns.map .int))) s1) (hp : ms.Perm ns) (hs : ms.Pairwise (· ≤ ·)) (hg : Gl X "sorted" := by rfl)
    (he : starEach (a :: []) X.env = (false, eval a X.env) :: starEach [] X.env := by rfl) (hpl : (backTo pos (starEach [] X.env)).any (·.1) = false := by rfl) : JF X (.Call (.Name "sorted" p) [a] [] pos) st (ms.map .int) s1 :=
  jf_of (pe_callB cr_sortedTI hg hm (by decide +kernel) (pa_cons pe_w pa_nil he) (by decide) (by decide) he hpl) fun as B H σ ok Q q => Ok.one (W := WN) ha ok fun v B1 H1 x1 o1 r1 => by
    cases r1 with
    | @tup a0 us _ sq hr =>
      have e := hr.ints
      subst e
      refine ⟨a0, ns, rfl, same_t o1.sm sq, fun ns' q0 e1 e2 hq => ?_⟩
      have er : ns' = ms := uniq (fun a b h1 h2 => Int.le_antisymm h1 h2) (e1.trans hp.symm) e2 hs
      subst er
      exact Ok.newF x1 o1 hq (Reps.of_ints _) q
/-- sorted(set(t)), t a tuple of whole numbers, few different ones -/
def tSortSetT (K : PySem.W.Frag) (ta : TE) : TE := fun σ H Q => ta σ H fun x H1 => ∃ (l : Addr) (ns M : List Int), x = V.ref l ∧ SqT K H1 l (ns.map V.int) ∧ ns.length < 4000 ∧ (∀ k ∈ ns, k ∈ M) ∧ M.length < 64 ∧
  ∀ (ms : List Int) (p : Addr), ms.Pairwise (· < ·) → (∀ k : Int, k ∈ ms ↔ k ∈ ns) → H1 p = none → Q (.ref p) (upd H1 p (.lst (ms.map V.int)))
theorem pe_sortSetT {a : Expr} {p p2 q pos : Pos} {ta : TE} (hc : X.calm = true) (hg : Gl X "sorted") (hm : X.mg "sorted" = none) (hg2 : Gl X "set") (hm2 : X.mg "set" = none) (ha : PE X a ta)
    (na : starEach [a] X.env = (false, eval a X.env) :: starEach [] X.env := by rfl) : PE X (.Call (.Name "sorted" p) [.Call (.Name "set" p2) [a] [] q] [] pos) (tSortSetT X.K ta) := by
  refine ⟨fun pins s σ H Q I h => ?_⟩
  refine Call_ (ld_blt I hg hm PyProof.Rows.boot_sorted ?_) 
  refine PyProof.Rows.callWith_builtin1 (PyProof.Rows.args_cons ?_ rfl) rfl rfl
  refine Call_ (ld_blt I hg2 hm2 PyProof.Rows.boot_set ?_)
  refine PyProof.Rows.callWith_type1 (PyProof.Rows.args_cons (thn (ha.run pins s σ H _ I h) fun v s1 ⟨x, H1, I1, r1, q1⟩ => PyProof.Rows.args_nil ?_) na) na rfl
  obtain ⟨l, ns, M, rfl, hq, h1, hM, hM2, q1⟩ := q1
  cases r1
  obtain ⟨its, rv, pl, hz⟩ := I1.tuple hq
  have hi : IntsAre its.toArray.toList ns := by simpa using rv.ints
  refine call_set_tupI (P := X.prog) (w := X.w) ns (I1.ok.hd hc) pl hi (by unfold scanBound; omega) fun h' tk c R hcn hkeep => ?_
  refine PyProof.Rows.args_nil ?_
  have I2 : Inv X pins σ H1 { s1 with heap := h', toks := tk } := I1.kept fun b o e => hkeep b o e
  have h64 : c < 64 := by
    obtain ⟨o, es, ep, t, ho, hex, hd, g, nd, hm, hb, hf, hn, hr, hl⟩ := R
    have := nd_len nd (M := M) fun k hk => by
      have := (hm k).mpr hk
      exact hM k (of_decide_eq_true this)
    rw [List.length_map, Array.length_toList] at this
    omega
  refine sorted_set (s := { s1 with heap := h', toks := tk }) R (I1.ok.hd hc) h64 fun s' p out c2 ns2 k g o hp hg3 hi2 hs hm3 hl2 => ?_
  have hlen : (ns2.map V.int).length ≤ sizeLine := by rw [List.length_map, hl2, sizeLine_eq]; omega
  have hp' : s1.heap.objs.size ≤ p := by
    obtain ⟨o, es, ep, t, ho, _⟩ := R
    have h1 := Heap.lt_size ho
    exact Nat.le_trans (Nat.le_of_lt h1) hp
  have k' : ∀ b u, s1.heap.get? b = some u → s'.heap.get? b = some u := fun b u e => k b u (hkeep b u e)
  have hn : H1 p = none := I1.hok.fresh hp'
  have J : Inv X pins σ (upd H1 p (.lst (ns2.map V.int))) { s1 with heap := s'.heap, gens := s'.gens, drawn := s'.drawn, toks := s'.toks } :=
    I1.call (ch := []) (Un.laid k' hp' hn) (I1.hok.laid k' hp' ⟨hlen, out.toList, c2, vals_of_ints hi2, hg3⟩) (by rw [g]; exact I1.bare) (fun _ z => nomatch z)
  have e : s' = { s1 with heap := s'.heap, gens := s'.gens, drawn := s'.drawn, toks := s'.toks } := by
    cases s'
    cases s1
    cases o
    rfl
  rw [e]
  exact ⟨.ref p, _, J, rfl, q1 ns2 p hs (fun k => (hm3 k).trans (by rw [decide_eq_true_eq])) hn⟩
theorem sorted_ext : ∀ {l m : List Int}, l.Pairwise (· < ·) → m.Pairwise (· < ·) → (∀ k, k ∈ l ↔ k ∈ m) → l = m
  | [], [], _, _, _ => rfl
  | [], b :: m, _, _, h => nomatch (h b).mpr List.mem_cons_self
  | a :: l, [], _, _, h => nomatch (h a).mp List.mem_cons_self
  | a :: l, b :: m, h1, h2, h => by
    obtain ⟨a1, a2⟩ := List.pairwise_cons.mp h1
    obtain ⟨b1, b2⟩ := List.pairwise_cons.mp h2
    have e : a = b := by
      rcases List.mem_cons.mp ((h a).mp List.mem_cons_self) with e | z
      · exact e
      · rcases List.mem_cons.mp ((h b).mpr List.mem_cons_self) with e | z2
        · exact e.symm
        · have := b1 a z; have := a1 b z2; omega
    subst e
    rw [sorted_ext a2 b2 fun k => ?_]
    have hk := h k
    rw [List.mem_cons, List.mem_cons] at hk
    constructor
    · intro z
      have := a1 k z
      exact (hk.mp (.inr z)).elim (fun e => by omega) id
    · intro z
      have := b1 k z
      exact (hk.mpr (.inr z)).elim (fun e => by omega) id
theorem jf_sortSetT {W : WX} {k : Nat} {a : Expr} {st s1 : A} {p p2 q pos : Pos} {ns ms M : List Int} (C : Cok X W k) (hm : X.mg "sorted" = none) (hm2 : X.mg "set" = none) (ha : JE X WN a st (.ok (.tup (ns.map .int))) s1) (h1 : ns.length < 4000) (hM : ∀ k ∈ ns, k ∈ M) (hM2 : M.length < 64) (hs : ms.Pairwise (· < ·)) (hmem : ∀ k, k ∈ ms ↔ k ∈ ns) (hg : Gl X "sorted" := by rfl) (hg2 : Gl X "set" := by rfl)
    (na : starEach [a] X.env = (false, eval a X.env) :: starEach [] X.env := by rfl) : JF X (.Call (.Name "sorted" p) [.Call (.Name "set" p2) [a] [] q] [] pos) st (ms.map .int) s1 :=
  jf_of (pe_sortSetT C.calm hg hm hg2 hm2 pe_w na) fun as B H σ ok Q q => Ok.one (W := WN) ha ok fun v B1 H1 x1 o1 r1 => by
    cases r1 with
    | @tup a0 us _ sq hr =>
      have e := hr.ints
      subst e
      refine ⟨a0, ns, M, rfl, same_t o1.sm sq, h1, hM, hM2, fun ns' q0 e1 e2 hq => ?_⟩
      have er : ns' = ms := sorted_ext e1 hs fun k => (e2 k).trans (hmem k).symm
      subst er
      exact Ok.newF x1 o1 hq (Reps.of_ints _) q
/-- t[lo:hi], t a tuple, not the whole of it -/
theorem je_cutT {W : WX} {a : Expr} {st : A} {p2 pos : Pos} {lo hi : Option Expr} {l u : Option Int} {xs : List D} (ha : JE X W a st (.ok (.tup xs)) st) (hl : JO X lo st l) (hu : JO X hi st u) (hn : ¬ (HT.sIx xs.length 0 l = 0 ∧ HT.sIx xs.length xs.length u = xs.length)) : JE X W (.Subscript a (.Slice lo hi none p2) pos) st (.ok (.tup (cutG xs l u))) st :=
  je_of (pe_slice sl_tup pe_w po_w po_w) fun as B H σ ok Q q => Ok.one ha ok fun x B1 H1 e1 o1 r => hl as B1 H1 σ o1 _ fun B2 H2 e2 o2 => hu as B2 H2 σ o2 _ fun B3 H3 e3 o3 => by
    cases r with
    | tup sa ra =>
      refine ⟨_, _, rfl, same_t o3.sm (same_t (e2.b.trans e3.b) sa), by rw [ra.length]; exact hn, fun p hp => ?_⟩
      obtain ⟨o4, e4⟩ := o3.new (o := .tup _) hp
      exact q _ _ _ (((e1.trans e2).trans e3).trans e4) o4 (.tup (.inl (.inl upd_same)) (((ra.mono (e2.b.trans e3.b)).cut l u).mono e4.b))
end
end DL
set_option Elab.async false
set_option linter.all false
set_option maxRecDepth 100000
set_option maxHeartbeats 4000000
set_option autoImplicit true
/-! DLs: tuple of a range -/
namespace DL
open PySem PySem.Spec PyProof.Rows L2
section
variable {X : Cx}
/-- tuple(range(m)) -/
theorem je_tupR {W : WX} {k m : Nat} {a : Expr} {s s1 : A} {p p2 pos pos' : Pos} (C : Cok X W k) (hm : X.mg "tuple" = none) (hr : X.mg "range" = none) (h : JE X WN a s (.ok (.int (m : Nat))) s1) (hn : m ≤ 16777216) (hg : Gl X "tuple" := by rfl) (hg2 : Gl X "range" := by rfl) (h1 : starEach [a] X.env = (false, eval a X.env) :: starEach [] X.env := by rfl)
    (hs : starEach [Expr.Call (.Name "range" p) [a] [] pos] X.env = (false, eval (.Call (.Name "range" p) [a] [] pos) X.env) :: starEach [] X.env := by rfl) : JE X W (.Call (.Name "tuple" p2) [.Call (.Name "range" p) [a] [] pos] [] pos') s (.ok (.tup ((List.range m).map fun i : Nat => D.int (i : Nat)))) s1 :=
  je_of (pe_tupRg C.calm hg hm (prg_1 hg2 hr pe_w h1) hs) fun as B H σ ok Q q => Ok.one h ok fun v B1 H1 x1 o1 r1 => by
    cases r1
    refine ⟨m, rfl, RgOk.of_le (by omega) (by omega) (by omega) (by omega), fun p hp => ?_⟩
    have e : rgV 0 (m : Int) = (List.range m).map fun i : Nat => V.int (i : Nat) := by
      unfold rgV
      have e1 : ((m : Int) - 0).toNat = m := by omega
      rw [e1]
      exact List.map_congr_left fun i _ => by rw [Int.zero_add]
    rw [e]
    have rr : ∀ l : List Nat, Reps X.K B1 (l.map fun i : Nat => V.int (i : Nat)) (l.map fun i : Nat => D.int (i : Nat)) := fun l => by
      induction l with
      | nil => exact .nil
      | cons x l ih => exact .cons (.int _) ih
    obtain ⟨o3, e3⟩ := o1.new (o := .tup _) hp
    exact q _ _ _ (x1.trans e3) o3 (.tup (.inl (.inl upd_same)) ((rr _).mono e3.b))
end
end DL
local macro_rules | `(tactic| walk_at "b") => `(tactic| first | exact DL.BinD.addI | exact DL.BinD.subI | exact DL.BinD.modI (by first | decide | omega) | exact DL.BinD.divI (by first | decide | (constructor <;> omega)) | exact DL.BinD.mulI (.inr (by decide)) | exact DL.BinD.mulI (.inl (by decide)) | exact DL.BinD.mulI (by first | (left; constructor <;> omega) | (right; constructor <;> omega)) | exact DL.BinD.addS (by assumption) | exact DL.BinD.catT (by assumption) (by assumption))
local macro_rules | `(tactic| walk_at "c") => `(tactic| first | exact DL.CmpD.lt | exact DL.CmpD.le | exact DL.CmpD.gt | exact DL.CmpD.ge | exact DL.CmpD.eqI | exact DL.CmpD.neI | exact DL.CmpD.eqS | exact DL.CmpD.neS | exact DL.CmpD.eqB | exact DL.CmpD.isN | exact DL.CmpD.notN)
local macro_rules | `(tactic| walk_at "i") => `(tactic| first | assumption | exact DL.IxD.lst rfl | exact DL.IxD.tup rfl | exact DL.IxD.scr (by assumption) | exact DL.IxD.lst (by assumption) | exact DL.IxD.tup (by assumption))
local macro_rules | `(tactic| walk_at "len") => `(tactic| first | exact DL.LenD.lst | exact DL.LenD.tup | exact DL.LenD.scr | exact DL.LenD.str (by assumption))

namespace Sm
open PySem L2 DL
/-- a net as the program looks at one: any tuples as steps -/
structure N3 where
  wide : Int
  steps : List (List Int)
  outs : List Int
def eS (s : List Int) : D := .tup (s.map .int)
def N3.e (n : N3) : D := .tup [.int n.wide, .lst (n.steps.map eS), .lst (n.outs.map .int)]
structure N3.fit (n : N3) : Prop where
  steps : n.steps.length ≤ 1000
  outs : n.outs.length ≤ 1000
  step : ∀ s ∈ n.steps, s.length ≤ 100
structure N3.ok (n : N3) : Prop where
  w1 : 1 ≤ n.wide
  w2 : n.wide ≤ 64
  ls : n.steps.length ≤ 500
  lo : (n.outs.length : Int) = n.wide
  st : ∀ (k : Nat) (s : List Int), n.steps[k]? = some s → s.length = 2 ∧ ∀ x ∈ s, 0 ≤ x ∧ x < n.wide + k
  os : ∀ o ∈ n.outs, 0 ≤ o ∧ o < n.wide + n.steps.length
/-- a right-made net -/
structure Nt where
  wide : Nat
  steps : List (Nat × Nat)
  outs : List Nat
def eN (n : Nat) : D := .int n
def eP (p : Nat × Nat) : D := .tup [.int p.1, .int p.2]
def Nt.e (n : Nt) : D := .tup [.int n.wide, .lst (n.steps.map eP), .lst (n.outs.map eN)]
structure Nt.good (n : Nt) : Prop where
  w1 : 1 ≤ n.wide
  w2 : n.wide ≤ 64
  ls : n.steps.length ≤ 500
  lo : n.outs.length = n.wide
  st : ∀ (k : Nat) (p : Nat × Nat), n.steps[k]? = some p → p.1 < n.wide + k ∧ p.2 < n.wide + k
  os : ∀ o ∈ n.outs, o < n.wide + n.steps.length
def Nt.n3 (n : Nt) : N3 := ⟨n.wide, n.steps.map fun p => [(p.1 : Int), (p.2 : Int)], n.outs.map fun o : Nat => (o : Int)⟩
theorem Nt.e_n3 (n : Nt) : n.n3.e = n.e := by
  unfold Nt.n3 N3.e Nt.e
  simp only [List.map_map]
  rfl
theorem Nt.good.fit {n : Nt} (h : n.good) : n.n3.fit where
  steps := by
    have := h.ls
    unfold Nt.n3
    rw [List.length_map]
    omega
  outs := by
    have h1 := h.lo
    have h2 := h.w2
    unfold Nt.n3
    rw [List.length_map]
    omega
  step := fun s hs => by
    obtain ⟨p, _, rfl⟩ := List.mem_map.mp hs
    show 2 ≤ 100
    omega
theorem Nt.good.ok {n : Nt} (h : n.good) : n.n3.ok where
  w1 := by have := h.w1; show (1 : Int) ≤ (n.wide : Int); omega
  w2 := by have := h.w2; show (n.wide : Int) ≤ 64; omega
  ls := by unfold Nt.n3; rw [List.length_map]; exact h.ls
  lo := by have := h.lo; show ((n.outs.map _).length : Int) = (n.wide : Int); rw [List.length_map]; omega
  st := fun k s hs => by
    have hs' : (n.steps.map fun p => [(p.1 : Int), (p.2 : Int)])[k]? = some s := hs
    rw [List.getElem?_map] at hs'
    cases e : n.steps[k]? with
    | none => rw [e] at hs'; cases hs'
    | some p =>
      rw [e] at hs'
      have hs'' : [(p.1 : Int), (p.2 : Int)] = s := Option.some.inj hs'
      subst hs''
      have := h.st k p e
      refine ⟨rfl, fun x hx => ?_⟩
      show 0 ≤ x ∧ x < (n.wide : Int) + k
      simp at hx
      omega
  os := fun o ho => by
    obtain ⟨p, hp, rfl⟩ := List.mem_map.mp ho
    have := h.os p hp
    show 0 ≤ (p : Int) ∧ (p : Int) < (n.wide : Int) + ((n.steps.map _).length : Nat)
    rw [List.length_map]
    omega
theorem N3.ok.nt {n : N3} (h : n.ok) : ∃ m : Nt, m.good ∧ m.n3 = n := by
  have two : ∀ (k : Nat) (s : List Int), n.steps[k]? = some s → ∃ a b : Nat, s = [(a : Int), (b : Int)] ∧ (a : Int) < n.wide + k ∧ (b : Int) < n.wide + k := fun k s hs => by
    obtain ⟨h1, h2⟩ := h.st k s hs
    match s, h1 with
    | [x, y], _ =>
      have hx := h2 x (by simp)
      have hy := h2 y (by simp)
      refine ⟨x.toNat, y.toNat, ?_, by omega, by omega⟩
      congr 1
      · omega
      · congr 1; omega
  have w1 := h.w1
  refine ⟨⟨n.wide.toNat, n.steps.map fun s => ((s.getD 0 0).toNat, (s.getD 1 0).toNat), n.outs.map Int.toNat⟩, ⟨by show 1 ≤ n.wide.toNat; omega, by have := h.w2; show n.wide.toNat ≤ 64; omega, by rw [List.length_map]; exact h.ls, by have := h.lo; rw [List.length_map]; show n.outs.length = n.wide.toNat; omega, fun k p hp => ?_, fun o ho => ?_⟩, ?_⟩
  · rw [List.getElem?_map] at hp
    cases e : n.steps[k]? with
    | none => rw [e] at hp; cases hp
    | some s =>
      rw [e] at hp
      obtain ⟨a, b, rfl, h1, h2⟩ := two k s e
      have hp' : (((a : Int)).toNat, ((b : Int)).toNat) = p := Option.some.inj hp
      subst hp'
      show (a : Int).toNat < n.wide.toNat + k ∧ (b : Int).toNat < n.wide.toNat + k
      omega
  · obtain ⟨x, hx, rfl⟩ := List.mem_map.mp ho
    have := h.os x hx
    show x.toNat < n.wide.toNat + (n.steps.map _).length
    rw [List.length_map]
    omega
  · unfold Nt.n3
    obtain ⟨w, st, os⟩ := n
    dsimp only at *
    congr 1
    · omega
    · rw [List.map_map]
      refine List.ext_getElem? fun k => ?_
      rw [List.getElem?_map]
      cases e : st[k]? with
      | none => rfl
      | some s =>
        obtain ⟨a, b, rfl, _, _⟩ := two k s e
        simp
    · rw [List.map_map]
      refine (List.map_congr_left fun x hx => ?_).trans (List.map_id _)
      have := h.os x hx
      show ((x.toNat : Nat) : Int) = x
      omega
theorem ix_lst {α : Type} (f : α → D) {l : List α} {i : Nat} (x : α) (h : i < l.length) : IxD (.lst (l.map f)) (.int (i : Nat)) (f (l.getD i x)) :=
  .lst (atI_map f (by rw [List.getD_eq_getElem?_getD, List.getElem?_eq_getElem h]; rfl))
theorem set_map {α : Type} (f : α → D) (l : List α) (i : Nat) (x : α) (d : D) (h : f x = d) : (l.map f).set i d = (l.set i x).map f := by
  rw [← h, List.map_set]
end Sm

namespace Sm
open PySem L2 DL
/-- told apart as values just where they differ -/
def Inj {α : Type} [DecidableEq α] (f : α → D) : Prop := ∀ x y, D.eqv (f x) (f y) = decide (x = y)
section
variable {α β : Type} [DecidableEq α] [DecidableEq β] {f : α → D} {g : β → D}
theorem eqv_int (i j : Int) : D.eqv (.int i) (.int j) = decide (i = j) := by
  unfold D.eqv; rw [D.py, D.py, PyData.eqv]; rfl
theorem eqv_bl (i j : Bool) : D.eqv (.bl i) (.bl j) = decide (i = j) := by
  unfold D.eqv; rw [D.py, D.py, PyData.eqv]; cases i <;> cases j <;> rfl
theorem eqv_str (i j : Str) : D.eqv (.str i) (.str j) = decide (i = j) := by
  unfold D.eqv; rw [D.py, D.py, PyData.eqv]
  by_cases h : i = j
  · rw [h]; simp
  · simp [h]
def eqvs : List D → List D → Bool
  | [], [] => true
  | x :: xs, y :: ys => D.eqv x y && eqvs xs ys
  | _, _ => false
theorem eqvs_py : ∀ xs ys : List D, PyData.eqvAll (D.pys xs) (D.pys ys) = eqvs xs ys
  | [], [] => rfl
  | [], _ :: _ => rfl
  | _ :: _, [] => rfl
  | x :: xs, y :: ys => by
    rw [D.pys, D.pys, PyData.eqvAll, eqvs_py xs ys]
    rfl
theorem eqv_lsts (xs ys : List D) : D.eqv (.lst xs) (.lst ys) = eqvs xs ys := by
  unfold D.eqv; rw [D.py, D.py, PyData.eqv, eqvs_py]
theorem eqv_tups (xs ys : List D) : D.eqv (.tup xs) (.tup ys) = eqvs xs ys := by
  unfold D.eqv; rw [D.py, D.py, PyData.eqv, eqvs_py]
theorem eqvs_map (h : Inj f) : ∀ l m : List α, eqvs (l.map f) (m.map f) = decide (l = m)
  | [], [] => rfl
  | [], _ :: _ => rfl
  | _ :: _, [] => rfl
  | x :: xs, y :: ys => by
    rw [List.map_cons, List.map_cons, eqvs, h, eqvs_map h xs ys]
    by_cases e : x = y
    · by_cases e2 : xs = ys <;> simp [e, e2]
    · simp [e]
theorem eqv_lst (h : Inj f) (l m : List α) : D.eqv (.lst (l.map f)) (.lst (m.map f)) = decide (l = m) := by rw [eqv_lsts, eqvs_map h]
theorem eqv_tup (h : Inj f) (l m : List α) : D.eqv (.tup (l.map f)) (.tup (m.map f)) = decide (l = m) := by rw [eqv_tups, eqvs_map h]
theorem inj_int : Inj D.int := eqv_int
theorem inj_bl : Inj D.bl := eqv_bl
theorem inj_str : Inj D.str := eqv_str
theorem inj_lst (h : Inj f) : Inj fun l : List α => D.lst (l.map f) := eqv_lst h
theorem inj_tup (h : Inj f) : Inj fun l : List α => D.tup (l.map f) := eqv_tup h
theorem inj_eN : Inj eN := fun x y => by
  unfold eN; rw [eqv_int, decide_eq_decide]
  omega
theorem inj_eS : Inj eS := inj_tup inj_int
theorem inj_eP : Inj eP := fun x y => by
  unfold eP
  rw [eqv_tups, eqvs, eqvs, eqvs, Bool.and_true]
  obtain ⟨a, b⟩ := x
  obtain ⟨c, d⟩ := y
  show (D.eqv (eN a) (eN c) && D.eqv (eN b) (eN d)) = _
  rw [inj_eN, inj_eN]
  by_cases h : a = c
  · by_cases h2 : b = d <;> simp [h, h2]
  · simp [h]
theorem inD_map (h : Inj f) (x : α) (l : List α) : inD (f x) (l.map f) = decide (x ∈ l) := by
  unfold inD
  induction l with
  | nil => simp
  | cons a l ih =>
    rw [List.map_cons, List.any_cons, ih, h]
    by_cases e : a = x
    · simp [e]
    · have e' : ¬ x = a := fun z => e z.symm
      simp [e, e']
/-- alike to itself -/
theorem eqv_self {n : Nat} {d : D} (h : Sh n d) : D.eqv d d = true := SeqAt.eqv_refl d.py (sh_py n d h).1
theorem sh_int (n : Nat) (i : Int) : Sh n (.int i) := by cases n <;> exact True.intro
theorem sh_bl (n : Nat) (i : Bool) : Sh n (.bl i) := by cases n <;> exact True.intro
theorem sh_non (n : Nat) : Sh n .non := by cases n <;> exact True.intro
theorem sh_eN (n x : Nat) : Sh n (eN x) := sh_int n x
theorem sh_lst {γ : Type} {f : γ → D} {n : Nat} {l : List γ} (h : ∀ x ∈ l, Sh n (f x)) : Sh (n + 1) (.lst (l.map f)) := fun y hy => by
  obtain ⟨x, hx, rfl⟩ := List.mem_map.mp hy
  exact h x hx
theorem sh_tup {γ : Type} {f : γ → D} {n : Nat} {l : List γ} (h : ∀ x ∈ l, Sh n (f x)) : Sh (n + 1) (.tup (l.map f)) := fun y hy => by
  obtain ⟨x, hx, rfl⟩ := List.mem_map.mp hy
  exact h x hx
theorem sh_nil {n : Nat} : ∀ x ∈ ([] : List D), Sh n x := fun _ h => nomatch h
theorem sh_cons {n : Nat} {d : D} {l : List D} (h : Sh n d) (h2 : ∀ x ∈ l, Sh n x) : ∀ x ∈ d :: l, Sh n x := fun x hx => by
  rcases List.mem_cons.mp hx with rfl | hx
  · exact h
  · exact h2 x hx
theorem sh_eP (n : Nat) (p : Nat × Nat) : Sh (n + 1) (eP p) := show ∀ x ∈ _, Sh n x from sh_cons (sh_int _ _) (sh_cons (sh_int _ _) sh_nil)
theorem sh_eS (n : Nat) (s : List Int) : Sh (n + 1) (eS s) := sh_tup fun x _ => sh_int n x
theorem sh_nt (n : Nat) (t : Nt) : Sh (n + 3) t.e := show ∀ x ∈ _, Sh (n + 2) x from sh_cons (sh_int _ _) (sh_cons (sh_lst fun p _ => sh_eP n p) (sh_cons (sh_lst fun x _ => sh_eN _ x) sh_nil))
theorem inj_nt (x y : Nt) : D.eqv x.e y.e = decide (x.wide = y.wide ∧ x.steps = y.steps ∧ x.outs = y.outs) := by
  unfold Nt.e
  rw [eqv_tups, eqvs, eqvs, eqvs, eqvs, eqv_lst inj_eP, eqv_lst inj_eN, Bool.and_true]
  show (D.eqv (eN x.wide) (eN y.wide) && _) = _
  rw [inj_eN]
  by_cases h1 : x.wide = y.wide
  · by_cases h2 : x.steps = y.steps
    · by_cases h3 : x.outs = y.outs <;> simp [h1, h2, h3]
    · simp [h1, h2]
  · simp [h1]
end
end Sm

namespace Wk
open PySem PySem.Spec PyProof.Rows L2 DL
def topS (i : Nat) : Stmt := PySem.Challenge.pw_sumspan_k10_whole_judged.main.body.getD i (.Pass ⟨0, 0, 0, 0⟩)
/-- the built-ins are themselves -/
structure Bt (mg : Str → Option Value) : Prop where
  len : mg "len" = none
  range : mg "range" = none
  list : mg "list" = none
  tuple : mg "tuple" = none
  max : mg "max" = none
  min : mg "min" = none
  all : mg "all" = none
  any : mg "any" = none
  int : mg "int" = none
  str : mg "str" = none
  bool : mg "bool" = none
  isinstance : mg "isinstance" = none
  sorted : mg "sorted" = none
  set : mg "set" = none
  reversed : mg "reversed" = none
  VE : mg "ValueError" = none
end Wk

namespace Wk
open PySem PySem.Spec PyProof.Rows L2 DL Sm
abbrev sLook : Stmt := topS 10
theorem scLook : FnScope ["net", "wide", "steps", "outs", "k", "one", "out"] ["net"] (defScope sLook) := ⟨rfl, rfl, rfl, by decide +kernel, rfl, by decide +kernel, by decide +kernel⟩
def pre3 (cN : Addr) : List D → Res → Prop := fun ds r => ∃ n : N3, n.fit ∧ ds = [n.e] ∧ ((n.ok ∧ r = .ok .non) ∨ (¬ n.ok ∧ r = .er cN))
section
variable {Pg : Program} {w : World} {K : PySem.W.Frag} {mg : Str → Option Value} {base : Heap}
theorem fn_look3 {f : Addr} {fd : FuncData} (F : Fun K "look_net" "look_net" sLook f fd) (hb : Binds K fd ["net"] []) (hm : mg "look_net" = some (.ref f)) (T : Bt mg) {cN : Addr} (xBadNet : ExcOf K mg "BadNet" cN) {t1 t2 : Tok} (mMOST_WIDE : mg "MOST_WIDE" = some (.int 64 t1)) (mMOST_STEPS : mg "MOST_STEPS" = some (.int 500 t2)) :
    Fn Pg w K mg base "look_net" 1 1 (pre3 cN) := by
  refine fn_ok (ps := ["net"]) F scLook hb hm (fun ds r ⟨n, _, h, _⟩ => by rw [h]; rfl) (by decide) fun cdv A outer s H E C ds r ⟨n, hfit, hds, hr⟩ => ?_
  subst hds
  have bad : ¬ n.ok → r = .er cN := fun h => by
    rcases hr with ⟨z, _⟩ | ⟨_, z⟩
    · exact absurd z h
    · exact z
  have hl1 := hfit.steps
  have hl5 : n.outs.length ≤ sizeLine := Nat.le_trans hfit.outs (by decide)
  show JB _ _ _ ⟨[.d n.e, .u, .u, .u, .u, .u, .u], []⟩ _
  refine jb_cons (js_asg (je_var 0) (jg_n3 1 2 3 C ?_))
  refine jb_cons (js_if (jt_w (jw_or (jt_not (jt_chain C je_int (je_var 1) (by walk_at "c") (je_globI mMOST_WIDE) (by walk_at "c"))) (jw_or (jt_cmp C (je_len T.len (je_var 2) (by walk_at "len")) (je_globI mMOST_STEPS) (by walk_at "c")) (jw_or1 (jt_cmp C (je_len T.len (je_var 3) (by walk_at "len")) (je_var 1) (by walk_at "c")))))) (fun hb => ?_) (fun hb => ?_))
  · refine jb_cons (js_raise C xBadNet ?_)
    refine bad fun z => ?_
    have h1 := z.w1; have h2 := z.w2; have h3 := z.ls; have h4 := z.lo
    simp [h1, h2, h4] at hb
    omega
  have hb1 := hb
  refine jb_nil ?_
  refine jb_cons (js_for (fun i s' => (∀ (k : Nat) (s : List Int), k < i → n.steps[k]? = some s → s.length = 2 ∧ ∀ x ∈ s, 0 ≤ x ∧ x < n.wide + k) ∧ s' = ⟨[.d n.e, .d (.int n.wide), .d (.lst (n.steps.map eS)), .d (.lst (n.outs.map .int)), .u, .u, .u], []⟩) C (ji_range1 T.range (je_len T.len (je_var 2) (by walk_at "len")) ?_) ⟨fun _ _ h => absurd h (Nat.not_lt_zero _), rfl⟩ ?_ ?_)
  · rw [List.length_map]; omega
  · rintro i d s' hd ⟨h1, rfl⟩
    rw [List.length_map] at hd
    obtain ⟨hi, rfl⟩ := rng_get hd
    have hg : n.steps[i]? = some n.steps[i] := List.getElem?_eq_getElem hi
    have hix : IxD (.lst (n.steps.map eS)) (.int (i : Nat)) (eS n.steps[i]) := .lst (atI_map eS hg)
    have hl4 : n.steps[i].length ≤ sizeLine := Nat.le_trans (hfit.step _ (List.getElem_mem hi)) (by decide)
    refine jg_name 4 C.nd ?_
    refine jb_cons (js_if (jt_w (jw_or (jt_cmp C (je_len T.len (je_ix (je_var 2) (je_var 4) (by walk_at "i")) (by walk_at "len")) je_int (by walk_at "c")) (jw_or1 (jt_not (jt_val (je_allM C T.all (je_f (jf_lc C (lc_map 5 n.steps[i] C (ji_tup (je_ix (je_var 2) (je_var 4) (by walk_at "i"))) (fun a ha _ _ _ _ _ C => (je_chain' C je_int (je_var 5) (by walk_at "c") (je_bin (je_var 1) (je_var 4) (by walk_at "b")) (by walk_at "c")))))))))))) (fun hb => ?_) (fun hb => ?_))
    · refine jb_cons (js_raise C xBadNet ?_)
      refine bad fun z => ?_
      obtain ⟨z1, z2⟩ := z.st i _ hg
      simp [z1] at hb
      obtain ⟨x, hx, hxx⟩ := hb
      have := z2 x hx
      omega
    refine jb_nil ?_
    refine jb_fin (t := ⟨[.d n.e, .d (.int n.wide), .d (.lst (n.steps.map eS)), .d (.lst (n.outs.map .int)), .u, .u, .u], []⟩) ⟨fun k s hk hs => ?_, rfl⟩
    by_cases e : k = i
    · subst e
      rw [hg] at hs; cases hs
      simp at hb
      refine ⟨by omega, fun x hx => ?_⟩
      have := hb.2 x hx
      omega
    · exact h1 k s (by omega) hs
  · rintro s' ⟨h1, rfl⟩
    rw [List.length_map, List.length_range] at h1
    refine jb_cons (js_if (jt_not (jt_val (je_allM C T.all (je_f (jf_lc C (lc_map 6 n.outs C (ji_list (je_var 3)) (fun a ha _ _ _ _ _ C => (je_chain' C je_int (je_var 6) (by walk_at "c") (je_bin (je_var 1) (je_len T.len (je_var 2) (by walk_at "len")) (by walk_at "b")) (by walk_at "c"))))))))) (fun hb => ?_) (fun hb => ?_))
    · refine jb_cons (js_raise C xBadNet ?_)
      refine bad fun z => ?_
      simp at hb
      obtain ⟨x, hx, hxx⟩ := hb
      have := z.os x hx
      omega
    refine jb_nil (jb_nil ?_)
    rcases hr with ⟨_, z⟩ | ⟨z, _⟩
    · exact z
    · simp at hb hb1
      refine absurd ⟨by omega, by omega, by omega, by omega, fun k s hs => h1 k s (by rw [List.length_map]; exact (List.getElem?_eq_some_iff.mp hs).1) hs, fun o ho => ?_⟩ z
      have := hb o ho
      omega
/-- look_net of nets -/
def preLook (cN : Addr) : List D → Res → Prop := fun ds r => (∃ n : Nt, n.good ∧ ds = [n.e] ∧ r = .ok .non) ∨ ∃ n : N3, n.fit ∧ ¬ n.ok ∧ ds = [n.e] ∧ r = .er cN
theorem preLook_to {cN : Addr} {ds : List D} {r : Res} (h : preLook cN ds r) : pre3 cN ds r := by
  rcases h with ⟨n, hg, h1, h2⟩ | ⟨n, hf, hk, h1, h2⟩
  · exact ⟨n.n3, hg.fit, by rw [h1, n.e_n3], .inl ⟨hg.ok, h2⟩⟩
  · exact ⟨n, hf, h1, .inr ⟨hk, h2⟩⟩
end
/-- of a net f; BadNet of what is none -/
def preN (cN : Addr) (f : Nt → D) : List D → Res → Prop := fun ds r => (∃ n : Nt, n.good ∧ ds = [n.e] ∧ r = .ok (f n)) ∨ ∃ n : N3, n.fit ∧ ¬ n.ok ∧ ds = [n.e] ∧ r = .er cN
theorem preN_len {cN : Addr} {f : Nt → D} : ∀ ds r, preN cN f ds r → ds.length = 1 := fun ds r h => by
  rcases h with ⟨n, _, h, _⟩ | ⟨n, _, _, h, _⟩ <;> rw [h] <;> rfl
theorem n3_bad {n : N3} (h : ¬ ∃ m : Nt, m.good ∧ m.n3 = n) : ¬ n.ok := fun z => h z.nt
def preG (f : Nt → D) : List D → Res → Prop := fun ds r => ∃ n : Nt, n.good ∧ ds = [n.e] ∧ r = .ok (f n)
end Wk

namespace Sm
open PySem L2 DL
/-- a cell of the script -/
def cellI (ns : List Int) (k : Nat) : Int := if ns.isEmpty then 0 else ns.getD (k % ns.length) 0
def mixA (ns : List Int) (k : Nat) : Int := (cellI ns k + 104729 * ((k : Int) + 1)) % 4294967291 * 48271 % 4294967279
def mixI (ns : List Int) (k : Nat) : Int := (mixA ns k / 64 * 69621 + mixA ns k) % 4294967231
def mixN (ns : List Int) (k : Nat) : Nat := (mixI ns k).toNat
theorem mix_cast (ns : List Int) (k : Nat) : mixI ns k = (mixN ns k : Int) := by
  have : 0 ≤ mixI ns k := Int.emod_nonneg _ (by decide)
  unfold mixN
  omega
/-- a drawn step -/
def stepN (ns : List Int) (k wide j : Nat) : Nat × Nat :=
  ([mixN ns (k + 2 + j) / 64 % (wide + j) - 1, mixN ns (k + 2 + j) % (wide + j), mixN ns (k + 2 + j) / 64 % (wide + j), wide + j - 1].getD (mixN ns (k + 2 + j) / 4096 % 4) 0, mixN ns (k + 2 + j) / 64 % (wide + j))
def wideN (ns : List Int) (k most : Nat) : Nat := 1 + mixN ns k % most
def stepsN (ns : List Int) (k most : Nat) : List (Nat × Nat) := (List.range (mixN ns (k + 1) % 9)).map (stepN ns k (wideN ns k most))
def outsN (ns : List Int) (k most : Nat) : List Nat := (List.range (wideN ns k most)).map fun j => mixN ns (k + 12 + j) % (wideN ns k most + (stepsN ns k most).length)
/-- a drawn net -/
def netN (ns : List Int) (k most : Nat) : Nt := ⟨wideN ns k most, stepsN ns k most, outsN ns k most⟩
theorem wideN_le {ns : List Int} {k most : Nat} (h : 1 ≤ most) : 1 ≤ wideN ns k most ∧ wideN ns k most ≤ most := by
  have := Nat.mod_lt (mixN ns k) h
  unfold wideN
  omega
theorem stepsN_len (ns : List Int) (k most : Nat) : (stepsN ns k most).length = mixN ns (k + 1) % 9 := by
  unfold stepsN
  rw [List.length_map, List.length_range]
theorem getD4 {a b c d i m : Nat} (h : i < 4) (ha : a < m) (hb : b < m) (hc : c < m) (hd : d < m) : [a, b, c, d].getD i 0 < m := by
  match i, h with
  | 0, _ => exact ha
  | 1, _ => exact hb
  | 2, _ => exact hc
  | 3, _ => exact hd
theorem netN_good {ns : List Int} {k most : Nat} (h : 1 ≤ most) (h2 : most ≤ 64) : (netN ns k most).good := by
  obtain ⟨w1, w2⟩ := wideN_le (ns := ns) (k := k) h
  refine ⟨w1, by show wideN ns k most ≤ 64; omega, ?_, ?_, fun j p hp => ?_, fun o ho => ?_⟩
  · show (stepsN ns k most).length ≤ 500
    have := Nat.mod_lt (mixN ns (k + 1)) (show 9 > 0 by decide)
    rw [stepsN_len]
    omega
  · show (outsN ns k most).length = wideN ns k most
    unfold outsN
    rw [List.length_map, List.length_range]
  · have hp' : (stepsN ns k most)[j]? = some p := hp
    unfold stepsN at hp'
    rw [List.getElem?_map] at hp'
    cases e : (List.range (mixN ns (k + 1) % 9))[j]? with
    | none => rw [e] at hp'; cases hp'
    | some i =>
      rw [e] at hp'
      have hp'' : stepN ns k (wideN ns k most) i = p := Option.some.inj hp'
      have ei : i = j := by
        obtain ⟨_, h2⟩ := List.getElem?_eq_some_iff.mp e
        rw [List.getElem_range] at h2
        exact h2.symm
      subst ei
      rw [← hp'']
      have hpos : 0 < wideN ns k most + i := by omega
      have m1 := Nat.mod_lt (mixN ns (k + 2 + i) / 64) hpos
      have m2 := Nat.mod_lt (mixN ns (k + 2 + i)) hpos
      show _ < wideN ns k most + i ∧ _ < wideN ns k most + i
      refine ⟨getD4 (Nat.mod_lt _ (by decide)) (by omega) m2 m1 (by omega), m1⟩
  · have ho' : o ∈ outsN ns k most := ho
    unfold outsN at ho'
    obtain ⟨j, _, rfl⟩ := List.mem_map.mp ho'
    exact Nat.mod_lt _ (by show 0 < wideN ns k most + (stepsN ns k most).length; omega)
theorem netN_few {ns : List Int} {k most : Nat} : (netN ns k most).steps.length ≤ 8 := by
  show (stepsN ns k most).length ≤ 8
  have := Nat.mod_lt (mixN ns (k + 1)) (show 9 > 0 by decide)
  rw [stepsN_len]
  omega
theorem foldl_snoc {α β : Type} (f : α → β) (l : List α) : ∀ acc, l.foldl (fun b a => b ++ [f a]) acc = acc ++ l.map f := by
  induction l with
  | nil => intro acc; simp
  | cons a l ih => intro acc; rw [List.foldl_cons, ih, List.map_cons, List.append_assoc]; rfl
theorem ix_disp {ds : List D} {i : Nat} (h : i < ds.length) : IxD (.lst ds) (.int (i : Nat)) (ds.getD i .non) :=
  .lst (atI_nat (by rw [List.getD_eq_getElem?_getD, List.getElem?_eq_getElem h]; rfl))
end Sm

namespace Wk
open PySem PySem.Spec PyProof.Rows L2 DL Sm
section
variable {Pg : Program} {w : World} {K : PySem.W.Frag} {mg : Str → Option Value} {base : Heap}
abbrev sCell : Stmt := topS 23
theorem scCell : FnScope ["_law_script", "_law_k"] ["_law_script", "_law_k"] (defScope sCell) := ⟨rfl, rfl, rfl, by decide +kernel, rfl, by decide +kernel, by decide +kernel⟩
def preCell : List D → Res → Prop := fun ds r => ∃ (ns : List Int) (k : Nat), ds = [.scr ns, .int k] ∧ r = .ok (.int (cellI ns k))
theorem fn_cell {f : Addr} {fd : FuncData} (F : Fun K "_law_cell" "_law_cell" sCell f fd) (hb : Binds K fd ["_law_script", "_law_k"] []) (hm : mg "_law_cell" = some (.ref f)) (T : Bt mg) : Fn Pg w K mg base "_law_cell" 2 1 preCell := by
  refine fn_ok (ps := ["_law_script", "_law_k"]) F scCell hb hm (fun ds r ⟨ns, k, h, _⟩ => by rw [h]; rfl) (by decide) fun cdv A outer s H E C ds r h => ?_
  obtain ⟨ns, k, rfl, rfl⟩ := h
  show JB _ _ _ ⟨[.d (.scr ns), .d (.int k)], []⟩ _
  refine jb_cons (js_if (jt_tru (je_var 0)) (fun hb => ?_) (fun hb => ?_))
  · have hne : 0 < ns.length := by
      cases ns with
      | nil => cases hb
      | cons a l => exact Nat.succ_pos _
    have hx : L2.atI ns ((k : Int) % (ns.length : Int)) = some (ns.getD (k % ns.length) 0) := by
      have e : (k : Int) % (ns.length : Int) = ((k % ns.length : Nat) : Int) := rfl
      rw [e]
      have hlt := Nat.mod_lt k hne
      exact atI_nat (by rw [List.getD_eq_getElem?_getD, List.getElem?_eq_getElem hlt]; rfl)
    refine jb_cons (js_ret (je_ix (je_var 0) (je_bin (je_var 1) (je_len T.len (je_var 0) .scr) (.modI (by omega))) (.scr hx)) ?_)
    show Res.ok _ = Res.ok _
    rw [cellI, if_neg (by intro z; rw [List.isEmpty_iff] at z; rw [z] at hne; cases hne)]
  refine jb_nil ?_
  refine jb_cons (js_ret je_int ?_)
  show Res.ok _ = Res.ok _
  have : ns.isEmpty = true := by
    have h : (!ns.isEmpty) = false := hb
    simpa using h
  rw [cellI, if_pos this]
abbrev sMix : Stmt := topS 24
theorem scMix : FnScope ["_law_script", "_law_k", "_law_number"] ["_law_script", "_law_k"] (defScope sMix) := ⟨rfl, rfl, rfl, by decide +kernel, rfl, by decide +kernel, by decide +kernel⟩
def preMix : List D → Res → Prop := fun ds r => ∃ (ns : List Int) (k : Nat), ds = [.scr ns, .int k] ∧ r = .ok (.int (mixN ns k))
theorem fn_mix {f : Addr} {fd : FuncData} (F : Fun K "_law_mix" "_law_mix" sMix f fd) (hb : Binds K fd ["_law_script", "_law_k"] []) (hm : mg "_law_mix" = some (.ref f)) (T : Bt mg) (F_law_cell : Fn Pg w K mg base "_law_cell" 2 1 preCell) : Fn Pg w K mg base "_law_mix" 2 2 preMix := by
  refine fn_ok (ps := ["_law_script", "_law_k"]) F scMix hb hm (fun ds r ⟨ns, k, h, _⟩ => by rw [h]; rfl) (by decide) fun cdv A outer s H E C ds r h => ?_
  obtain ⟨ns, k, rfl, rfl⟩ := h
  show JB _ _ _ ⟨[.d (.scr ns), .d (.int k), .u], []⟩ _
  refine jb_cons (js_set 2 C (je_bin (je_bin (je_call C F_law_cell (by decide) (jd_cons (je_var 0) (jd_cons (je_var 1) jd_nil)) ⟨ns, k, rfl, rfl⟩) (je_bin je_int (je_bin (je_var 1) je_int (by walk_at "b")) (by walk_at "b")) (by walk_at "b")) je_int (by walk_at "b")) ?_)
  refine jb_cons (js_set 2 C (je_bin (je_bin (je_var 2) je_int (by walk_at "b")) je_int (by walk_at "b")) ?_)
  refine jb_cons (js_ret (je_bin (je_bin (je_bin (je_bin (je_var 2) je_int (by walk_at "b")) je_int (by walk_at "b")) (je_var 2) (by walk_at "b")) je_int (by walk_at "b")) ?_)
  show Res.ok _ = Res.ok (.int (mixI ns k))
  rw [mix_cast]
end
end Wk

namespace Sm
open PySem L2 DL
/-- stretches cut anywhere: the nodes that are told, the steps -/
structure CS where
  kv : List ((Nat × Nat) × Nat)
  st : List (Nat × Nat)
def look (kv : List ((Nat × Nat) × Nat)) (k : Nat × Nat) : Option Nat := (kv.find? fun p => decide (p.1 = k)).map (·.2)
def put (kv : List ((Nat × Nat) × Nat)) (k : Nat × Nat) (x : Nat) : List ((Nat × Nat) × Nat) :=
  if (kv.any fun p => decide (p.1 = k)) = true then kv.map (fun p => if p.1 = k then (p.1, x) else p) else kv ++ [(k, x)]
def keyN (k : Nat × Nat) : List Key := nkey [(k.1 : Int), (k.2 : Int)]
def encK (kv : List ((Nat × Nat) × Nat)) : List (List Key × D) := kv.map fun p => (keyN p.1, eN p.2)
theorem keyN_inj {a b : Nat × Nat} : keyN a = keyN b ↔ a = b := by
  obtain ⟨a1, a2⟩ := a
  obtain ⟨b1, b2⟩ := b
  constructor
  · intro h
    unfold keyN nkey at h
    simp only [List.map_cons, List.map_nil, List.cons.injEq, Sum.inl.injEq, and_true] at h
    have h1 : a1 = b1 := by omega
    have h2 : a2 = b2 := by omega
    rw [h1, h2]
  · intro h; rw [h]
theorem dval_enc (k : Nat × Nat) : ∀ kv, dval (encK kv) (keyN k) = (look kv k).map eN
  | [] => rfl
  | p :: kv => by
    have ih := dval_enc k kv
    unfold dval look encK at ih ⊢
    rw [List.map_cons, List.find?_cons, List.find?_cons]
    by_cases e : p.1 = k
    · have e2 : keyN p.1 = keyN k := keyN_inj.mpr e
      rw [decide_eq_true e, decide_eq_true e2]
      rfl
    · have e2 : ¬ keyN p.1 = keyN k := fun z => e (keyN_inj.mp z)
      rw [decide_eq_false e, decide_eq_false e2]
      exact ih
theorem dput_enc (k : Nat × Nat) (x : Nat) (kv) : dput (encK kv) (keyN k) (eN x) = encK (put kv k x) := by
  have ea : ((encK kv).any fun p => decide (p.1 = keyN k)) = kv.any fun p => decide (p.1 = k) := by
    unfold encK
    rw [List.any_map]
    congr 1
    funext p
    show decide (keyN p.1 = keyN k) = decide (p.1 = k)
    rw [decide_eq_decide]
    exact keyN_inj
  unfold dput put
  rw [ea]
  split
  · unfold encK
    rw [List.map_map, List.map_map]
    refine List.map_congr_left fun p _ => ?_
    show (if keyN p.1 = keyN k then _ else _) = _
    by_cases e : p.1 = k
    · rw [if_pos (keyN_inj.mpr e)]
      show _ = (fun p : (Nat × Nat) × Nat => (keyN p.1, eN p.2)) (if p.1 = k then (p.1, x) else p)
      rw [if_pos e]
    · rw [if_neg (fun z => e (keyN_inj.mp z))]
      show _ = (fun p : (Nat × Nat) × Nat => (keyN p.1, eN p.2)) (if p.1 = k then (p.1, x) else p)
      rw [if_neg e]
  · unfold encK
    rw [List.map_append]
    rfl
theorem look_put (k : Nat × Nat) (x : Nat) (kv) : look (put kv k x) k = some x := by
  unfold put
  split
  · rename_i h
    unfold look
    induction kv with
    | nil => simp at h
    | cons p kv ih =>
      rw [List.map_cons, List.find?_cons]
      by_cases e : p.1 = k
      · rw [if_pos e, decide_eq_true e]; rfl
      · rw [if_neg e, decide_eq_false e]
        refine ih ?_
        rw [List.any_cons, decide_eq_false e, Bool.false_or] at h
        exact h
  · rename_i h
    have h' : ∀ p ∈ kv, ¬ p.1 = k := fun p hp z => h (List.any_eq_true.mpr ⟨p, hp, decide_eq_true z⟩)
    clear h
    unfold look
    induction kv with
    | nil => simp
    | cons p kv ih =>
      rw [List.cons_append, List.find?_cons, decide_eq_false (h' p List.mem_cons_self)]
      exact ih fun q hq => h' q (List.mem_cons_of_mem _ hq)
theorem put_len (k : Nat × Nat) (x : Nat) (kv) : (put kv k x).length ≤ kv.length + 1 := by
  unfold put
  split
  · rw [List.length_map]; omega
  · rw [List.length_append]; exact Nat.le_refl _
theorem put_mem {k : Nat × Nat} {x : Nat} {kv} {q : (Nat × Nat) × Nat} (h : q ∈ put kv k x) : q ∈ kv ∨ q.2 = x := by
  unfold put at h
  split at h
  · obtain ⟨p, hp, rfl⟩ := List.mem_map.mp h
    by_cases e : p.1 = k
    · rw [if_pos e]; exact .inr rfl
    · rw [if_neg e]; exact .inl hp
  · rcases List.mem_append.mp h with h | h
    · exact .inl h
    · rw [List.mem_singleton.mp h]; exact .inr rfl
theorem look_mem {k : Nat × Nat} {x : Nat} {kv} (h : look kv k = some x) : ∃ q ∈ kv, q.2 = x := by
  unfold look at h
  cases e : kv.find? fun p => decide (p.1 = k) with
  | none => rw [e] at h; cases h
  | some q =>
    rw [e] at h
    exact ⟨q, List.mem_of_find?_eq_some e, Option.some.inj h⟩
/-- where a stretch is cut -/
def cutAt (ns : List Int) (k f l : Nat) : Nat := f + mixN ns (k + 7 * f + l) % (l - f)
/-- the last step of a stretch: a its first half's node, B what its second half came to -/
def cutS (wide f l a : Nat) (B : Nat × CS) : Nat × CS := (wide + B.2.st.length, ⟨put B.2.kv (f, l) (wide + B.2.st.length), B.2.st ++ [(a, B.1)]⟩)
def cutF (ns : List Int) (k wide : Nat) : Nat → Nat → Nat → CS → Nat × CS
  | 0, f, _, s => (f, s)
  | m + 1, f, l, s => if f = l then (f, s) else match look s.kv (f, l) with
    | some x => (x, s)
    | none => cutS wide f l (cutF ns k wide m f (cutAt ns k f l) s).1 (cutF ns k wide m (cutAt ns k f l + 1) l (cutF ns k wide m f (cutAt ns k f l) s).2)
theorem cutF_none {ns : List Int} {k wide m f l : Nat} {s : CS} (e : ¬ f = l) (el : look s.kv (f, l) = none) : cutF ns k wide (m + 1) f l s = cutS wide f l (cutF ns k wide m f (cutAt ns k f l) s).1 (cutF ns k wide m (cutAt ns k f l + 1) l (cutF ns k wide m f (cutAt ns k f l) s).2) := by
  rw [cutF, if_neg e, el]
structure CS.ok (wide : Nat) (s : CS) : Prop where
  st : ∀ (k : Nat) (p : Nat × Nat), s.st[k]? = some p → p.1 < wide + k ∧ p.2 < wide + k
  kv : ∀ q ∈ s.kv, q.2 < wide + s.st.length
  ln : s.kv.length ≤ s.st.length
theorem cutAt_lt {ns : List Int} {k f l : Nat} (h : f < l) : f ≤ cutAt ns k f l ∧ cutAt ns k f l < l := by
  have := Nat.mod_lt (mixN ns (k + 7 * f + l)) (show l - f > 0 by omega)
  unfold cutAt
  omega
theorem cutF_ok (ns : List Int) (k wide : Nat) : ∀ (m f l : Nat) (s : CS), l - f ≤ m → f ≤ l → l < wide → s.ok wide → (cutF ns k wide m f l s).2.ok wide ∧ (cutF ns k wide m f l s).1 < wide + (cutF ns k wide m f l s).2.st.length ∧ s.st.length ≤ (cutF ns k wide m f l s).2.st.length ∧ (cutF ns k wide m f l s).2.st.length ≤ s.st.length + (l - f)
  | 0, f, l, s, h1, h2, h3, h => ⟨h, by show f < _; omega, Nat.le_refl _, Nat.le_add_right _ _⟩
  | m + 1, f, l, s, h1, h2, h3, h => by
    by_cases e : f = l
    · have ec : cutF ns k wide (m + 1) f l s = (f, s) := by rw [cutF, if_pos e]
      rw [ec]
      exact ⟨h, by show f < _ + _; omega, Nat.le_refl _, Nat.le_add_right _ _⟩
    · cases el : look s.kv (f, l) with
      | some x =>
        have ec : cutF ns k wide (m + 1) f l s = (x, s) := by rw [cutF, if_neg e, el]
        rw [ec]
        obtain ⟨q, hq, e2⟩ := look_mem el
        exact ⟨h, by show x < _; rw [← e2]; exact h.kv q hq, Nat.le_refl _, Nat.le_add_right _ _⟩
      | none =>
        obtain ⟨c1, c2⟩ := cutAt_lt (ns := ns) (k := k) (show f < l by omega)
        obtain ⟨a1, a2, a3, a4⟩ := cutF_ok ns k wide m f (cutAt ns k f l) s (by omega) c1 (by omega) h
        obtain ⟨b1, b2, b3, b4⟩ := cutF_ok ns k wide m (cutAt ns k f l + 1) l (cutF ns k wide m f (cutAt ns k f l) s).2 (by omega) (by omega) h3 a1
        rw [cutF_none e el]
        revert b1 b2 b3 b4
        generalize cutF ns k wide m (cutAt ns k f l + 1) l (cutF ns k wide m f (cutAt ns k f l) s).2 = B
        revert a1 a2 a3 a4
        generalize cutF ns k wide m f (cutAt ns k f l) s = A
        intro a1 a2 a3 a4 b1 b2 b3 b4
        have eL : (cutS wide f l A.1 B).2.st.length = B.2.st.length + 1 := by
          show (B.2.st ++ [(A.1, B.1)]).length = _
          rw [List.length_append]
          rfl
        refine ⟨⟨fun j p hj => ?_, fun q hq => ?_, ?_⟩, ?_, ?_, ?_⟩
        · have hj : (B.2.st ++ [(A.1, B.1)])[j]? = some p := hj
          by_cases hl : j < B.2.st.length
          · rw [List.getElem?_append_left hl] at hj
            exact b1.st j p hj
          · rw [List.getElem?_append_right (by omega)] at hj
            cases e3 : j - B.2.st.length with
            | zero =>
              rw [e3] at hj
              have hj' : (A.1, B.1) = p := Option.some.inj hj
              subst hj'
              show A.1 < _ ∧ B.1 < _
              omega
            | succ i => rw [e3] at hj; cases hj
        · have hq : q ∈ put B.2.kv (f, l) (wide + B.2.st.length) := hq
          rw [eL]
          rcases put_mem hq with hq | hq
          · have := b1.kv q hq
            omega
          · omega
        · rw [eL]
          have h6 : (cutS wide f l A.1 B).2.kv.length ≤ B.2.kv.length + 1 := put_len (f, l) (wide + B.2.st.length) B.2.kv
          have := b1.ln
          omega
        · rw [eL]
          show wide + B.2.st.length < _
          omega
        · rw [eL]; omega
        · rw [eL]; omega
/-- a net of stretches from the first thing on -/
def rWide (ns : List Int) (k most : Nat) : Nat := 1 + mixN ns k % most
def rStep (ns : List Int) (k most : Nat) (s : CS) (l : Nat) : CS := (cutF ns (k + 1) (rWide ns k most) most 0 l s).2
def rOut (ns : List Int) (k most : Nat) (s : CS) (l : Nat) : Nat := (cutF ns (k + 1) (rWide ns k most) most 0 l s).1
def foldT {α β γ : Type} (g : γ → α → γ) (o : γ → α → β) : γ → List α → List β
  | _, [] => []
  | b, a :: l => o b a :: foldT g o (g b a) l
theorem foldO_map {α β γ : Type} (g : γ → α → γ) (o : γ → α → β) (f : β → D) : ∀ (l : List α) (b : γ), foldO g (fun b a => f (o b a)) b l = (foldT g o b l).map f
  | [], _ => rfl
  | a :: l, b => by rw [foldO, foldT, List.map_cons, foldO_map g o f l]
theorem foldT_len {α β γ : Type} (g : γ → α → γ) (o : γ → α → β) : ∀ (l : List α) (b : γ), (foldT g o b l).length = l.length
  | [], _ => rfl
  | _ :: l, b => by rw [foldT, List.length_cons, List.length_cons, foldT_len g o l]
def rEnd (ns : List Int) (k most : Nat) : CS := (List.range (rWide ns k most)).foldl (rStep ns k most) ⟨[], []⟩
def rightN (ns : List Int) (k most : Nat) : Nt := ⟨rWide ns k most, (rEnd ns k most).st, foldT (rStep ns k most) (rOut ns k most) ⟨[], []⟩ (List.range (rWide ns k most))⟩
theorem rWide_le {ns : List Int} {k most : Nat} (h : 1 ≤ most) : 1 ≤ rWide ns k most ∧ rWide ns k most ≤ most := by
  have := Nat.mod_lt (mixN ns k) h
  unfold rWide
  omega
theorem right_fold (ns : List Int) (k most : Nat) (h : 1 ≤ most) : ∀ (l : List Nat) (s : CS), (∀ x ∈ l, x < rWide ns k most) → s.ok (rWide ns k most) →
    (l.foldl (rStep ns k most) s).ok (rWide ns k most) ∧ s.st.length ≤ (l.foldl (rStep ns k most) s).st.length ∧ (l.foldl (rStep ns k most) s).st.length ≤ s.st.length + l.length * most ∧ ∀ o ∈ foldT (rStep ns k most) (rOut ns k most) s l, o < rWide ns k most + (l.foldl (rStep ns k most) s).st.length
  | [], s, _, h => ⟨h, Nat.le_refl _, by simp, fun _ z => nomatch z⟩
  | x :: l, s, hx, hs => by
    have hw := (rWide_le (ns := ns) (k := k) h).2
    have hx0 := hx x List.mem_cons_self
    obtain ⟨c1, c2, c3, c4⟩ := cutF_ok ns (k + 1) (rWide ns k most) most 0 x s (by omega) (Nat.zero_le _) hx0 hs
    obtain ⟨d1, d2, d3, d4⟩ := right_fold ns k most h l (rStep ns k most s x) (fun y hy => hx y (List.mem_cons_of_mem _ hy)) c1
    have e1 : (rStep ns k most s x).st.length ≤ s.st.length + x := by unfold rStep; omega
    have e2 : s.st.length ≤ (rStep ns k most s x).st.length := c3
    rw [List.foldl_cons]
    refine ⟨d1, by omega, ?_, fun o ho => ?_⟩
    · rw [List.length_cons, Nat.succ_mul]
      omega
    · rcases List.mem_cons.mp ho with rfl | ho
      · have : rOut ns k most s x < rWide ns k most + (rStep ns k most s x).st.length := c2
        omega
      · exact d4 o ho
theorem rightN_good {ns : List Int} {k most : Nat} (h : 1 ≤ most) (h2 : most ≤ 20) : (rightN ns k most).good ∧ (rightN ns k most).steps.length ≤ most * most := by
  obtain ⟨w1, w2⟩ := rWide_le (ns := ns) (k := k) h
  obtain ⟨d1, _, d3, d4⟩ := right_fold ns k most h (List.range (rWide ns k most)) ⟨[], []⟩ (fun x hx => List.mem_range.mp hx) ⟨(fun j p e => by simp at e), (fun q hq => nomatch hq), Nat.le_refl _⟩
  rw [List.length_range] at d3
  have d3' : (rEnd ns k most).st.length ≤ rWide ns k most * most := by
    have : (rEnd ns k most).st.length ≤ 0 + rWide ns k most * most := d3
    omega
  have m1 : rWide ns k most * most ≤ most * most := Nat.mul_le_mul_right _ w2
  have m2 : most * most ≤ 20 * 20 := Nat.mul_le_mul h2 h2
  refine ⟨⟨w1, by show rWide ns k most ≤ 64; omega, by show (rEnd ns k most).st.length ≤ 500; omega, ?_, d1.st, d4⟩, by show (rEnd ns k most).st.length ≤ _; omega⟩
  show (foldT _ _ _ _).length = rWide ns k most
  rw [foldT_len, List.length_range]
end Sm

namespace Sm
open PySem L2 DL
abbrev Ps := List (Nat × Nat)
/-- the nodes of n steps more -/
def nodesS (w : Nat) (st : Ps) (n : Nat) : List Nat := (List.range n).map fun i => w + st.length + i
theorem nodesS_len (w : Nat) (st : Ps) (n : Nat) : (nodesS w st n).length = n := by rw [nodesS, List.length_map, List.length_range]
theorem nodesS_succ (w : Nat) (st : Ps) (p : Nat × Nat) (n : Nat) : (w + st.length) :: nodesS w (st ++ [p]) n = nodesS w st (n + 1) := by
  unfold nodesS
  rw [List.range_succ_eq_map, List.map_cons, List.map_map]
  congr 1
  refine List.map_congr_left fun i _ => ?_
  rw [List.length_append]
  show w + (st.length + 1) + i = w + st.length + (i + 1)
  omega
def addS {α : Type} (g : α → Nat × Nat) (st : Ps) (k : α) : Ps := st ++ [g k]
theorem addS_fold {α : Type} (g : α → Nat × Nat) : ∀ (ks : List α) (st : Ps), ks.foldl (addS g) st = st ++ ks.map g := fun ks st => foldl_snoc g ks st
theorem nodeS_fold {α : Type} (g : α → Nat × Nat) (w : Nat) : ∀ (ks : List α) (st : Ps), foldO (addS g) (fun st _ => eN (w + st.length)) st ks = (nodesS w st ks.length).map eN
  | [], _ => rfl
  | k :: ks, st => by
    rw [foldO, nodeS_fold g w ks, List.length_cons, ← nodesS_succ w st (g k) ks.length, List.map_cons]
    rfl
/-- a node more, a step more -/
def pairS {α : Type} (w : Nat) (g : α → Nat × Nat) (p : List Nat × Ps) (k : α) : List Nat × Ps := (p.1 ++ [w + p.2.length], p.2 ++ [g k])
theorem pair_fold {α : Type} (w : Nat) (g : α → Nat × Nat) : ∀ (ks : List α) (l : List Nat) (st : Ps), ks.foldl (pairS w g) (l, st) = (l ++ nodesS w st ks.length, st ++ ks.map g)
  | [], l, st => by simp [nodesS]
  | k :: ks, l, st => by
    rw [List.foldl_cons]
    show ks.foldl (pairS w g) (l ++ [w + st.length], st ++ [g k]) = _
    rw [pair_fold w g ks, List.length_cons, ← nodesS_succ w st (g k) ks.length, List.map_cons, List.append_assoc, List.append_assoc]
    rfl
def lastN (l : List Nat) : Nat := l.getD (l.length - 1) 0
/-- one behind the other -/
def linF (w : Nat) (p : List Nat × Ps) (one : Nat) : List Nat × Ps := if p.1 = [] then (p.1 ++ [one], p.2) else (p.1 ++ [w + p.2.length], p.2 ++ [(lastN p.1, one)])
def lineF (w : Nat) (so : List Nat) (st : Ps) : List Nat × Ps := so.foldl (linF w) ([], st)
theorem linF_len (w : Nat) (p : List Nat × Ps) (one : Nat) : (linF w p one).1.length = p.1.length + 1 ∧ (linF w p one).2.length ≤ p.2.length + 1 := by
  unfold linF
  split
  · exact ⟨by rw [List.length_append]; rfl, Nat.le_succ _⟩
  · exact ⟨by rw [List.length_append]; rfl, by rw [List.length_append]; exact Nat.le_refl _⟩
/-- by halves -/
def joinH (w : Nat) (A : List Nat) (B : List Nat × Ps) : List Nat × Ps := (A ++ nodesS w B.2 B.1.length, B.2 ++ B.1.map fun one => (lastN A, one))
def halvesF (w : Nat) : Nat → List Nat → Ps → List Nat × Ps
  | 0, so, st => (so, st)
  | m + 1, so, st => if so.length < 2 then (so, st) else joinH w (halvesF w m (so.take ((so.length + 1) / 2)) st).1 (halvesF w m (so.drop ((so.length + 1) / 2)) (halvesF w m (so.take ((so.length + 1) / 2)) st).2)
theorem halves_len (w : Nat) : ∀ (m : Nat) (so : List Nat) (st : Ps), (halvesF w m so st).1.length = so.length ∧ (halvesF w m so st).2.length ≤ st.length + m * so.length
  | 0, so, st => ⟨rfl, Nat.le_add_right _ _⟩
  | m + 1, so, st => by
    unfold halvesF
    split
    · exact ⟨rfl, Nat.le_add_right _ _⟩
    · obtain ⟨a1, a2⟩ := halves_len w m (so.take ((so.length + 1) / 2)) st
      obtain ⟨b1, b2⟩ := halves_len w m (so.drop ((so.length + 1) / 2)) (halvesF w m (so.take ((so.length + 1) / 2)) st).2
      unfold joinH
      rw [List.length_take] at a1 a2
      rw [List.length_drop] at b1 b2
      refine ⟨?_, ?_⟩
      · dsimp only
        rw [List.length_append, nodesS_len, a1, b1]
        omega
      · dsimp only
        rw [List.length_append, List.length_map, b1, Nat.succ_mul]
        have e : m * so.length = m * min ((so.length + 1) / 2) so.length + m * (so.length - (so.length + 1) / 2) := by
          rw [← Nat.mul_add]
          congr 1
          omega
        omega
/-- by strides -/
def stepSt (f : List Nat) (s i : Nat) : Nat × Nat := (f.getD (s + i - s) 0, f.getD (s + i) 0)
def strideF (w n : Nat) : Nat → Nat → List Nat → Ps → List Nat × Ps
  | 0, _, f, st => (f, st)
  | m + 1, s, f, st => if s < n then strideF w n m (2 * s) (f.take s ++ nodesS w st (n - s)) (st ++ (List.range (n - s)).map (stepSt f s)) else (f, st)
/-- up and down -/
def upSt (so : List Nat) (i : Nat) : Nat × Nat := (so.getD (2 * i) 0, so.getD (2 * i + 1) 0)
def upF (w : Nat) (so sums : List Nat) (p : List Nat × Ps) (i : Nat) : List Nat × Ps :=
  if (1 + i) % 2 = 1 then (p.1 ++ [sums.getD ((1 + i) / 2) 0], p.2) else (p.1 ++ [w + p.2.length], p.2 ++ [(sums.getD ((1 + i) / 2 - 1) 0, so.getD (1 + i) 0)])
def upEnd (w : Nat) (so : List Nat) (S : List Nat × Ps) : List Nat × Ps := (List.range (so.length - 1)).foldl (upF w so S.1) ([so.getD 0 0], S.2)
def updownF (w : Nat) : Nat → List Nat → Ps → List Nat × Ps
  | 0, so, st => (so, st)
  | m + 1, so, st => if so.length < 2 then (so, st) else upEnd w so (updownF w m (nodesS w st (so.length / 2)) (st ++ (List.range (so.length / 2)).map (upSt so)))
theorem upF_len (w : Nat) (so sums : List Nat) (p : List Nat × Ps) (i : Nat) : (upF w so sums p i).1.length = p.1.length + 1 ∧ (upF w so sums p i).2.length ≤ p.2.length + 1 - (1 + i) % 2 := by
  unfold upF
  split
  · rename_i h
    exact ⟨by rw [List.length_append]; rfl, by rw [h]; exact Nat.le_refl _⟩
  · rename_i h
    have h : (1 + i) % 2 = 0 := by omega
    exact ⟨by rw [List.length_append]; rfl, by rw [h, List.length_append]; exact Nat.le_refl _⟩
theorem ups_len (w : Nat) (so sums : List Nat) (p : List Nat × Ps) : ∀ m : Nat, ((List.range m).foldl (upF w so sums) p).1.length = p.1.length + m ∧ ((List.range m).foldl (upF w so sums) p).2.length ≤ p.2.length + m / 2
  | 0 => ⟨rfl, Nat.le_add_right _ _⟩
  | m + 1 => by
    obtain ⟨a1, a2⟩ := ups_len w so sums p m
    rw [List.range_succ, List.foldl_append]
    obtain ⟨b1, b2⟩ := upF_len w so sums ((List.range m).foldl (upF w so sums) p) m
    refine ⟨by show (upF w so sums _ m).1.length = _; rw [b1, a1]; omega, ?_⟩
    show (upF w so sums _ m).2.length ≤ _
    omega
theorem updown_len (w : Nat) : ∀ (m : Nat) (so : List Nat) (st : Ps), (updownF w m so st).1.length = so.length ∧ (updownF w m so st).2.length ≤ st.length + m * so.length
  | 0, so, st => ⟨rfl, Nat.le_add_right _ _⟩
  | m + 1, so, st => by
    unfold updownF
    split
    · exact ⟨rfl, Nat.le_add_right _ _⟩
    · obtain ⟨a1, a2⟩ := updown_len w m (nodesS w st (so.length / 2)) (st ++ (List.range (so.length / 2)).map (upSt so))
      unfold upEnd
      obtain ⟨b1, b2⟩ := ups_len w so (updownF w m (nodesS w st (so.length / 2)) (st ++ (List.range (so.length / 2)).map (upSt so))).1 ([so.getD 0 0], (updownF w m (nodesS w st (so.length / 2)) (st ++ (List.range (so.length / 2)).map (upSt so))).2) (so.length - 1)
      rw [List.length_append, List.length_map, List.length_range, nodesS_len] at a2
      refine ⟨?_, ?_⟩
      · rw [b1]
        show 1 + _ = _
        omega
      · have e : m * (so.length / 2) ≤ m * so.length := Nat.mul_le_mul_left _ (by omega)
        rw [Nat.succ_mul]
        dsimp only at b2
        omega
/-- the known nets -/
def kn (j w : Nat) : List Nat × Ps := match j with
  | 0 => lineF w (List.range w) []
  | 1 => halvesF w 6 (List.range w) []
  | 2 => strideF w w w 1 (List.range w) []
  | _ => updownF w 6 (List.range w) []
def knownN (j w : Nat) : Nt := ⟨w, (kn j w).2, (kn j w).1⟩
def wordS (j : Nat) : Str := ["line", "halves", "strides", "updown"].getD j ""
/-! ### looked at -/
def stB (w : Nat) : Nat → Ps → Bool
  | _, [] => true
  | k, p :: r => (decide (p.1 < w + k) && decide (p.2 < w + k)) && stB w (k + 1) r
def goodB (n : Nt) : Bool := (decide (1 ≤ n.wide) && decide (n.wide ≤ 64)) && ((decide (n.steps.length ≤ 500) && decide (n.outs.length = n.wide)) && (stB n.wide 0 n.steps && n.outs.all fun o => decide (o < n.wide + n.steps.length)))
theorem stB_ok {w : Nat} : ∀ {k : Nat} {l : Ps}, stB w k l = true → ∀ (i : Nat) (p : Nat × Nat), l[i]? = some p → p.1 < w + (k + i) ∧ p.2 < w + (k + i)
  | k, [], _, i, p, e => by simp at e
  | k, q :: r, h, 0, p, e => by
    have e : q = p := by simpa using e
    subst e
    rw [stB, Bool.and_eq_true, Bool.and_eq_true] at h
    exact ⟨of_decide_eq_true h.1.1, of_decide_eq_true h.1.2⟩
  | k, q :: r, h, i + 1, p, e => by
    rw [stB, Bool.and_eq_true] at h
    have := stB_ok h.2 i p (by simpa using e)
    omega
theorem goodB_ok {n : Nt} (h : goodB n = true) : n.good := by
  unfold goodB at h
  simp only [Bool.and_eq_true] at h
  obtain ⟨⟨h1, h2⟩, ⟨h3, h4⟩, h5, h6⟩ := h
  refine ⟨of_decide_eq_true h1, of_decide_eq_true h2, of_decide_eq_true h3, of_decide_eq_true h4, fun k p hp => ?_, fun o ho => of_decide_eq_true (List.all_eq_true.mp h6 o ho)⟩
  have := stB_ok h5 k p hp
  omega
/-- the least depth -/
def ldF (w : Nat) : Nat → Nat → Nat → Nat
  | 0, _, found => found
  | m + 1, many, found => if many < w then ldF w m (2 * many) (found + 1) else found
def leastD (w : Nat) : Nat := ldF w w 1 0
end Sm

namespace Wk
open PySem PySem.Spec PyProof.Rows L2 DL Sm
section
variable {Pg : Program} {w : World} {K : PySem.W.Frag} {mg : Str → Option Value} {base : Heap}
abbrev sCut : Stmt := topS 27
theorem scCut : FnScope ["_law_first", "_law_last", "_law_script", "_law_k", "_law_nodes", "_law_steps", "_law_wide", "_law_cut_here", "_law_one", "_law_other"] ["_law_first", "_law_last", "_law_script", "_law_k", "_law_nodes", "_law_steps", "_law_wide"] (defScope sCut) := ⟨rfl, rfl, rfl, by decide +kernel, rfl, by decide +kernel, by decide +kernel⟩
def clCut (s : CS) : List Cl := [.dic (encK s.kv), .lst (s.st.map eP)]
def preCut (m : Nat) : List Sl → List Cl → Res → List Cl → Prop := fun sls cl r cl' => ∃ (ns : List Int) (k wide f l : Nat) (s : CS), s.ok wide ∧ f ≤ l ∧ l < wide ∧ wide ≤ 64 ∧ s.st.length + (l - f) ≤ 1000 ∧ l - f ≤ m ∧ sls = [.d (.int f), .d (.int l), .d (.scr ns), .d (.int k), .c 0, .c 1, .d (.int wide)] ∧ cl = clCut s ∧ r = .ok (eN (cutF ns k wide m f l s).1) ∧ cl' = clCut (cutF ns k wide m f l s).2
theorem fn_cut {f : Addr} {fd : FuncData} (F : Fun K "_law_cut" "_law_cut" sCut f fd) (hb : Binds K fd ["_law_first", "_law_last", "_law_script", "_law_k", "_law_nodes", "_law_steps", "_law_wide"] []) (hm : mg "_law_cut" = some (.ref f)) (T : Bt mg) (F_law_mix : Fn Pg w K mg base "_law_mix" 2 2 preMix) : ∀ m, FnC Pg w K mg base "_law_cut" 7 2 (3 + m) (preCut m) := by
  intro m
  induction m with
  | zero =>
    refine fn_okC (k := 2) (ps := ["_law_first", "_law_last", "_law_script", "_law_k", "_law_nodes", "_law_steps", "_law_wide"]) F scCut hb hm (fun sls cl r cl' ⟨ns, k, wide, f, l, s, _, _, _, _, _, _, h, _⟩ => by rw [h]; rfl) (by decide) fun cdv A outer s H E C sls cl r cl' _ h => ?_
    obtain ⟨ns, k, wide, f, l, s, hs, h1, h2, h3, h4, h5, rfl, rfl, rfl, rfl⟩ := h
    have e : f = l := by omega
    subst e
    show JB _ _ _ ⟨[.d (.int f), .d (.int f), .d (.scr ns), .d (.int k), .c 0, .c 1, .d (.int wide), .u, .u, .u], [.dic (encK s.kv), .lst (s.st.map eP)]⟩ _
    refine jb_cons (js_if (jt_cmp C (je_var 0) (je_var 1) (by walk_at "c")) (fun hb => ?_) (fun hb => ?_))
    · exact jb_cons (js_ret (je_var 0) ⟨rfl, rfl⟩)
    · have := of_decide_eq_false hb
      exact absurd rfl this
  | succ m ih =>
    refine fn_okC (k := 3 + m) (ps := ["_law_first", "_law_last", "_law_script", "_law_k", "_law_nodes", "_law_steps", "_law_wide"]) F scCut hb hm (fun sls cl r cl' ⟨ns, k, wide, f, l, s, _, _, _, _, _, _, h, _⟩ => by rw [h]; rfl) (by decide) fun cdv A outer s H E C sls cl r cl' _ h => ?_
    obtain ⟨ns, k, wide, f, l, s, hs, h1, h2, h3, h4, h5, rfl, rfl, rfl, rfl⟩ := h
    show JB _ _ _ ⟨[.d (.int f), .d (.int l), .d (.scr ns), .d (.int k), .c 0, .c 1, .d (.int wide), .u, .u, .u], [.dic (encK s.kv), .lst (s.st.map eP)]⟩ _
    refine jb_cons (js_if (jt_cmp C (je_var 0) (je_var 1) (by walk_at "c")) (fun hb => ?_) (fun hb => ?_))
    · have e : f = l := by have := of_decide_eq_true hb; omega
      have ec : cutF ns k wide (m + 1) f l s = (f, s) := by rw [cutF, if_pos e]
      exact jb_cons (js_ret (je_var 0) ⟨by rw [ec]; rfl, by rw [ec]; rfl⟩)
    have e : ¬ f = l := by have := of_decide_eq_false hb; omega
    have hlt : f < l := by omega
    refine jb_nil ?_
    have kn : keyN (f, l) = nkey [(f : Int), (l : Int)] := rfl
    refine jb_cut (fun s' => s' = ⟨[.d (.int f), .d (.int l), .d (.scr ns), .d (.int k), .c 0, .c 1, .d (.int wide), .u, .u, .u], clCut (cutF ns k wide (m + 1) f l s).2⟩ ∧ look (cutF ns k wide (m + 1) f l s).2.kv (f, l) = some (cutF ns k wide (m + 1) f l s).1)
      (js_if (jt_dnin (ns := [(f : Int), (l : Int)]) 4 C (jd_cons (je_var 0) (jd_cons (je_var 1) jd_nil))) (fun hb => ?_) (fun hb => ?_)) ?_
    · rw [← kn, dval_enc] at hb
      have el : look s.kv (f, l) = none := by
        cases q : look s.kv (f, l) with
        | none => rfl
        | some x => rw [q] at hb; cases hb
      obtain ⟨c1, c2⟩ := cutAt_lt (ns := ns) (k := k) hlt
      obtain ⟨a1, a2, a3, a4⟩ := cutF_ok ns k wide m f (cutAt ns k f l) s (by omega) c1 (by omega) hs
      obtain ⟨b1, b2, b3, b4⟩ := cutF_ok ns k wide m (cutAt ns k f l + 1) l (cutF ns k wide m f (cutAt ns k f l) s).2 (by omega) (by omega) h2 a1
      rw [cutF_none e el]
      have e0 : ((cutAt ns k f l : Nat) : Int) + 1 = ((cutAt ns k f l + 1 : Nat) : Int) := rfl
      refine jb_cons (js_set 7 C (je_as (je_bin (je_var 0) (je_bin (je_call C F_law_mix (by omega) (jd_cons (je_var 2) (jd_cons (je_as (je_bin (je_bin (je_var 3) (je_bin je_int (je_var 0) (by walk_at "b")) (by walk_at "b")) (je_var 1) (by walk_at "b")) (show _ = D.int ((k + 7 * f + l : Nat) : Int) from rfl)) jd_nil)) ⟨ns, k + 7 * f + l, rfl, rfl⟩) (je_bin (je_var 1) (je_var 0) (by walk_at "b")) (.modI (by omega))) (by walk_at "b")) (show _ = D.int ((cutAt ns k f l : Nat) : Int) by
        show D.int _ = D.int _
        congr 1
        unfold cutAt
        rw [Int.natCast_add, Int.natCast_emod, Int.ofNat_sub (by omega)])) ?_)
      refine jb_cons (js_set 8 C (je_callC C ih (Nat.le_refl _) (ja_val (je_var 0) (ja_val (je_var 7) (ja_val (je_var 2) (ja_val (je_var 3) (ja_cell 4 (ja_cell 5 (ja_val (je_var 6) ja_nil))))))) ⟨ns, k, wide, f, cutAt ns k f l, s, hs, c1, by omega, h3, by omega, by omega, rfl, rfl, rfl, rfl⟩) ?_)
      refine jb_cons (js_set 9 C (je_callC C ih (Nat.le_refl _) (ja_val (je_as (je_bin (je_var 7) je_int (by walk_at "b")) (congrArg D.int e0)) (ja_val (je_var 1) (ja_val (je_var 2) (ja_val (je_var 3) (ja_cell 4 (ja_cell 5 (ja_val (je_var 6) ja_nil))))))) ⟨ns, k, wide, cutAt ns k f l + 1, l, (cutF ns k wide m f (cutAt ns k f l) s).2, a1, by omega, h2, h3, by omega, by omega, rfl, rfl, rfl, rfl⟩) ?_)
      revert b1 b2 b3 b4
      generalize cutF ns k wide m (cutAt ns k f l + 1) l (cutF ns k wide m f (cutAt ns k f l) s).2 = Bc
      intro b1 b2 b3 b4
      refine jb_cons (js_app 5 1 (je_tup (jd_cons (je_var 8) (jd_cons (je_var 9) jd_nil))) ?_ ?_)
      · rw [List.length_map, sizeLine_eq]; omega
      refine jb_cons (js_dput (ns := [(f : Int), (l : Int)]) 4 0 C (je_as (je_view (je_bin (je_bin (je_var 6) (je_len T.len (je_var 5) (by walk_at "len")) (by walk_at "b")) je_int (by walk_at "b"))) (show _ = eN (wide + Bc.2.st.length) by
        rw [List.length_append, List.length_map]
        show D.int _ = D.int _
        congr 1
        show (wide : Int) + ((Bc.2.st.length + 1 : Nat) : Int) - 1 = _
        omega)) (jd_cons (je_var 0) (jd_cons (je_var 1) jd_nil)) ?_ ?_)
      · unfold encK
        rw [List.length_map, sizeLine_eq]
        have := b1.ln
        omega
      rw [← kn, dput_enc]
      refine jb_fin (t := ⟨[.d (.int f), .d (.int l), .d (.scr ns), .d (.int k), .c 0, .c 1, .d (.int wide), .u, .u, .u], _⟩) ⟨rfl, look_put _ _ _⟩ ?_
      show ([.dic (encK (put Bc.2.kv (f, l) (wide + Bc.2.st.length))), .lst (Bc.2.st.map eP ++ [eP ((cutF ns k wide m f (cutAt ns k f l) s).1, Bc.1)])] : List Cl) = [.dic _, .lst ((Bc.2.st ++ [((cutF ns k wide m f (cutAt ns k f l) s).1, Bc.1)]).map eP)]
      rw [List.map_append]
      rfl
    · rw [← kn, dval_enc] at hb
      cases el : look s.kv (f, l) with
      | none => rw [el] at hb; cases hb
      | some x =>
        have ec : cutF ns k wide (m + 1) f l s = (x, s) := by rw [cutF, if_neg e, el]
        rw [ec]
        exact jb_nil ⟨rfl, el⟩
    · rintro s' ⟨rfl, hlook⟩
      refine jb_cons (js_ret (je_dget (ns := [(f : Int), (l : Int)]) 4 C (jd_cons (je_var 0) (jd_cons (je_var 1) jd_nil)) (by rw [← kn, dval_enc, hlook]; rfl)) ⟨rfl, rfl⟩)
abbrev sRight : Stmt := topS 28
theorem scRight : FnScope ["_law_script", "_law_k", "_law_most", "_law_wide", "_law_nodes", "_law_steps", "_law_last", "_law_outs"] ["_law_script", "_law_k", "_law_most"] (defScope sRight) := ⟨rfl, rfl, rfl, by decide +kernel, rfl, by decide +kernel, by decide +kernel⟩
def preRight : List D → Res → Prop := fun ds r => ∃ (ns : List Int) (k most : Nat), ds = [.scr ns, .int k, .int most] ∧ 1 ≤ most ∧ most ≤ 20 ∧ r = .ok (rightN ns k most).e
theorem fn_right {f : Addr} {fd : FuncData} (F : Fun K "_law_right" "_law_right" sRight f fd) (hb : Binds K fd ["_law_script", "_law_k", "_law_most"] []) (hm : mg "_law_right" = some (.ref f)) (T : Bt mg) (F_law_mix : Fn Pg w K mg base "_law_mix" 2 2 preMix) (F_law_cut : ∀ m, FnC Pg w K mg base "_law_cut" 7 2 (3 + m) (preCut m)) : Fn Pg w K mg base "_law_right" 3 24 preRight := by
  refine fn_ok (ps := ["_law_script", "_law_k", "_law_most"]) F scRight hb hm (fun ds r ⟨ns, k, m, h, _⟩ => by rw [h]; rfl) (by decide) fun cdv A outer s H E C ds r h => ?_
  obtain ⟨ns, k, most, rfl, m1, m2, rfl⟩ := h
  obtain ⟨w1, w2⟩ := rWide_le (ns := ns) (k := k) m1
  show JB _ _ _ ⟨[.d (.scr ns), .d (.int k), .d (.int most), .u, .u, .u, .u, .u], []⟩ _
  refine jb_cons (js_set 3 C (je_as (je_bin je_int (je_bin (je_call C F_law_mix (by decide) (jd_cons (je_var 0) (jd_cons (je_var 1) jd_nil)) ⟨ns, k, rfl, rfl⟩) (je_var 2) (by walk_at "b")) (by walk_at "b")) (show _ = D.int ((rWide ns k most : Nat) : Int) from rfl)) ?_)
  refine jb_cons (js_newD 4 C ?_)
  refine jb_cons (js_new 5 C (jf_lst jd_nil) ?_)
  have hl : (List.range (rWide ns k most)).length ≤ sizeLine := by rw [List.length_range, sizeLine_eq]; omega
  have mm : rWide ns k most * most ≤ 20 * 20 := Nat.mul_le_mul (by omega) m2
  refine jb_cons (js_setLc 7 C (lc_as (lc_fold 6 (List.range (rWide ns k most)) (enc := eN) ⟨[], []⟩ (rStep ns k most) (fun s l => eN (rOut ns k most s l)) clCut (fun j s => s.ok (rWide ns k most) ∧ s.st.length ≤ j * most) C (ji_range1 T.range (je_var 3) (by omega)) rfl ⟨⟨(fun j p e => by simp at e), (fun q hq => nomatch hq), Nat.le_refl _⟩, Nat.zero_le _⟩ (fun j l b hl2 _ hQ => ?_)) (foldO_map _ _ eN _ _)) ?_)
  · obtain ⟨hj, hl3⟩ := List.getElem?_eq_some_iff.mp hl2
    rw [List.length_range] at hj
    rw [List.getElem_range] at hl3
    subst hl3
    obtain ⟨hb1, hb2⟩ := hQ
    obtain ⟨c1, c2, c3, c4⟩ := cutF_ok ns (k + 1) (rWide ns k most) most 0 j b (by omega) (Nat.zero_le _) hj hb1
    have jm : j * most ≤ 20 * 20 := Nat.mul_le_mul (by omega) m2
    refine ⟨⟨c1, ?_⟩, fun _ _ _ _ _ C => ?_⟩
    · have : (rStep ns k most b j).st.length ≤ b.st.length + j := by unfold rStep; omega
      rw [Nat.succ_mul]
      omega
    · exact je_callC C (F_law_cut most) (by omega) (ja_val je_int (ja_val (je_var 6) (ja_val (je_var 0) (ja_val (je_bin (je_var 1) je_int (by walk_at "b")) (ja_cell 4 (ja_cell 5 (ja_val (je_var 3) ja_nil))))))) ⟨ns, k + 1, rWide ns k most, 0, j, b, hb1, Nat.zero_le _, hj, by omega, by omega, by omega, rfl, rfl, rfl, rfl⟩
  refine jb_freeze 5 1 ?_
  exact jb_cons (js_ret (je_tup (jd_cons (je_var 3) (jd_cons (je_var 5) (jd_cons (je_var 7) jd_nil)))) rfl)
end
end Wk

namespace Sm
open PySem L2 DL
theorem cut_take {α : Type} (l : List α) (k : Nat) : cutG l none (some (k : Int)) = l.take k := by
  unfold cutG
  rw [HT.sIx_none, HT.sIx_nat, Nat.sub_zero, List.drop_zero]
  by_cases h : k ≤ l.length
  · rw [Nat.min_eq_left h]
  · rw [Nat.min_eq_right (by omega), List.take_length, List.take_of_length_le (by omega)]
theorem cut_drop {α : Type} (l : List α) (k : Nat) : cutG l (some (k : Int)) none = l.drop k := by
  unfold cutG
  rw [HT.sIx_none, HT.sIx_nat]
  by_cases h : k ≤ l.length
  · rw [Nat.min_eq_left h, List.take_of_length_le (by rw [List.length_drop]; omega)]
  · rw [Nat.min_eq_right (by omega), List.drop_of_length_le (Nat.le_refl _), List.drop_of_length_le (by omega)]
    simp
theorem cut_init {α : Type} (l : List α) : cutG l none (some (-1)) = l.take (l.length - 1) := by
  unfold cutG
  rw [HT.sIx_none, Nat.sub_zero, List.drop_zero]
  congr 1
  unfold HT.sIx
  simp
  omega
end Sm

namespace Sm
open PySem L2 DL
theorem set_cut {α : Type} {l : List α} {i : Nat} (x : α) (h : i < l.length) : l.take i ++ [x] ++ l.drop (i + 1) = l.set i x := by
  rw [List.set_eq_take_append_cons_drop, if_pos h, List.append_assoc]
  rfl
def bendAt (n : Nt) (num : Nat) : Nat := num / 8 % max 1 n.steps.length
def bendStep (n : Nt) (num : Nat) : Nat × Nat :=
  [((n.steps.getD (bendAt n num) (0, 0)).1, num / 64 % (n.wide + bendAt n num)), (num / 64 % (n.wide + bendAt n num), (n.steps.getD (bendAt n num) (0, 0)).2), ((n.steps.getD (bendAt n num) (0, 0)).2, (n.steps.getD (bendAt n num) (0, 0)).1)].getD (num / 4096 % 3) (0, 0)
/-- a net bent -/
def bentN (n : Nt) (num : Nat) : Nt :=
  if num % 8 = 0 ∧ n.steps ≠ [] then ⟨n.wide, n.steps.set (bendAt n num) (bendStep n num), n.outs⟩
  else if num % 8 = 1 then ⟨n.wide, n.steps, n.outs.set (num / 8 % n.wide) (num / 64 % (n.wide + n.steps.length))⟩
  else if num % 8 = 2 then ⟨n.wide, n.steps ++ [(num / 64 % (n.wide + n.steps.length), num / 8 % n.wide)], n.outs⟩
  else n
theorem bendAt_lt {n : Nt} {num : Nat} (h : n.steps ≠ []) : bendAt n num < n.steps.length := by
  have hp : 0 < n.steps.length := List.length_pos_iff.mpr h
  have e : max 1 n.steps.length = n.steps.length := by omega
  unfold bendAt
  rw [e]
  exact Nat.mod_lt _ hp
theorem bendStep_lt {n : Nt} {num : Nat} (hg : n.good) (h : n.steps ≠ []) : (bendStep n num).1 < n.wide + bendAt n num ∧ (bendStep n num).2 < n.wide + bendAt n num := by
  have hl := bendAt_lt (num := num) h
  have hp : n.steps[bendAt n num]? = some (n.steps.getD (bendAt n num) (0, 0)) := by rw [List.getD_eq_getElem?_getD, List.getElem?_eq_getElem hl]; rfl
  obtain ⟨h1, h2⟩ := hg.st _ _ hp
  have h3 := Nat.mod_lt (num / 64) (show n.wide + bendAt n num > 0 by have := hg.w1; omega)
  have q3 := Nat.mod_lt (num / 4096) (show 3 > 0 by decide)
  unfold bendStep
  revert q3
  generalize num / 4096 % 3 = i
  intro q3
  match i, q3 with
  | 0, _ => exact ⟨h1, h3⟩
  | 1, _ => exact ⟨h3, h2⟩
  | 2, _ => exact ⟨h2, h1⟩
theorem bentN_good {n : Nt} (hg : n.good) (hl : n.steps.length ≤ 400) (num : Nat) : (bentN n num).good ∧ (bentN n num).wide = n.wide ∧ (bentN n num).steps.length ≤ n.steps.length + 1 := by
  have w1 := hg.w1
  have lo := hg.lo
  unfold bentN
  split
  · rename_i h
    obtain ⟨b1, b2⟩ := bendStep_lt (num := num) hg h.2
    have hal := bendAt_lt (num := num) h.2
    refine ⟨⟨hg.w1, hg.w2, by rw [List.length_set]; exact hg.ls, hg.lo, fun k p hp => ?_, fun o ho => by rw [List.length_set]; exact hg.os o ho⟩, rfl, by rw [List.length_set]; omega⟩
    dsimp only at hp
    by_cases e : bendAt n num = k
    · subst e
      rw [List.getElem?_set_self hal] at hp
      cases hp
      exact ⟨b1, b2⟩
    · rw [List.getElem?_set_ne e] at hp
      exact hg.st k p hp
  · split
    · have h3 := Nat.mod_lt (num / 64) (show n.wide + n.steps.length > 0 by omega)
      refine ⟨⟨hg.w1, hg.w2, hg.ls, by dsimp only; rw [List.length_set]; exact hg.lo, hg.st, fun o ho => ?_⟩, rfl, Nat.le_succ _⟩
      rcases List.mem_or_eq_of_mem_set ho with ho | rfl
      · exact hg.os o ho
      · exact h3
    · split
      · have h3 := Nat.mod_lt (num / 64) (show n.wide + n.steps.length > 0 by omega)
        have h4 := Nat.mod_lt (num / 8) (show n.wide > 0 by omega)
        refine ⟨⟨hg.w1, hg.w2, by dsimp only; rw [List.length_append]; show _ + 1 ≤ 500; omega, hg.lo, fun k p hp => ?_, fun o ho => ?_⟩, rfl, by dsimp only; rw [List.length_append]; exact Nat.le_refl _⟩
        · dsimp only at hp
          by_cases hk : k < n.steps.length
          · rw [List.getElem?_append_left hk] at hp
            exact hg.st k p hp
          · rw [List.getElem?_append_right (by omega)] at hp
            cases e : k - n.steps.length with
            | zero =>
              rw [e] at hp
              have hp' : (num / 64 % (n.wide + n.steps.length), num / 8 % n.wide) = p := Option.some.inj hp
              subst hp'
              have ek : k = n.steps.length := by omega
              subst ek
              exact ⟨h3, by show num / 8 % n.wide < n.wide + _; omega⟩
            | succ i => rw [e] at hp; cases hp
        · have := hg.os o ho
          dsimp only
          rw [List.length_append]
          show o < n.wide + (_ + 1)
          omega
      · exact ⟨hg, rfl, Nat.le_succ _⟩
end Sm

namespace Wk
open PySem PySem.Spec PyProof.Rows L2 DL Sm
section
variable {Pg : Program} {w : World} {K : PySem.W.Frag} {mg : Str → Option Value} {base : Heap}
abbrev sBent : Stmt := topS 29
theorem scBent : FnScope ["_law_script", "_law_k", "_law_net_here", "_law_wide", "_law_steps", "_law_outs", "_law_number", "_law_at", "_law_other", "_law_bent_here"] ["_law_script", "_law_k", "_law_net_here"] (defScope sBent) := ⟨rfl, rfl, rfl, by decide +kernel, rfl, by decide +kernel, by decide +kernel⟩
def preBent : List D → Res → Prop := fun ds r => ∃ (ns : List Int) (k : Nat) (n : Nt), n.good ∧ n.steps.length ≤ 400 ∧ ds = [.scr ns, .int k, n.e] ∧ r = .ok (bentN n (mixN ns k)).e
theorem fn_bent {f : Addr} {fd : FuncData} (F : Fun K "_law_bent" "_law_bent" sBent f fd) (hb : Binds K fd ["_law_script", "_law_k", "_law_net_here"] []) (hm : mg "_law_bent" = some (.ref f)) (T : Bt mg) (F_law_mix : Fn Pg w K mg base "_law_mix" 2 2 preMix) : Fn Pg w K mg base "_law_bent" 3 3 preBent := by
  refine fn_ok (ps := ["_law_script", "_law_k", "_law_net_here"]) F scBent hb hm (fun ds r ⟨ns, k, n, _, _, h, _⟩ => by rw [h]; rfl) (by decide) fun cdv A outer s H E C ds r h => ?_
  obtain ⟨ns, k, n, hg, h4, rfl, rfl⟩ := h
  have w1 := hg.w1; have w2 := hg.w2; have lo := hg.lo
  have ls : (n.steps.map eP).length ≤ 400 := by rw [List.length_map]; exact h4
  have lu : (n.outs.map eN).length ≤ 64 := by rw [List.length_map]; omega
  show JB _ _ _ ⟨[.d (.scr ns), .d (.int k), .d n.e, .u, .u, .u, .u, .u, .u, .u], []⟩ _
  refine jb_cons (js_asg (je_var 2) (jg_n3 3 4 5 C ?_))
  refine jb_cons (js_set 6 C (je_as (je_call C F_law_mix (by decide) (jd_cons (je_var 0) (jd_cons (je_var 1) jd_nil)) ⟨ns, k, rfl, rfl⟩) (show _ = D.int ((mixN ns k : Nat) : Int) from rfl)) ?_)
  generalize mixN ns k = num
  have hpos : (0 : Int) < max 1 ((n.steps.map eP).length : Int) := by omega
  refine jb_cons (js_set 7 C (je_as (je_bin (je_bin (je_var 6) je_int (by walk_at "b")) (je_max2 C T.max je_int (je_len T.len (je_var 4) (by walk_at "len"))) (.modI hpos)) (show _ = D.int ((bendAt n num : Nat) : Int) by
    rw [List.length_map, bendAt]; congr 1; show ((num / 8 : Nat) : Int) % max ((1 : Nat) : Int) (n.steps.length : Int) = _; rw [Int.natCast_emod]; congr 1; omega)) ?_)
  have q3 := Nat.mod_lt (num / 4096) (show 3 > 0 by decide)
  refine jb_cons (js_if (jt_w (jw_and (jt_cmp C (je_bin (je_var 6) je_int (by walk_at "b")) je_int (by walk_at "c")) (jw_and1 (jt_tru (je_var 4))))) (fun hb => ?_) (fun hb => ?_))
  · have hs : num % 8 = 0 ∧ n.steps ≠ [] := by
      simp [truD] at hb
      exact ⟨by omega, hb.2⟩
    have hal := bendAt_lt (num := num) hs.2
    have x1 : IxD (.lst (n.steps.map eP)) (.int (bendAt n num : Nat)) (eP (n.steps.getD (bendAt n num) (0, 0))) := ix_lst eP (0, 0) hal
    refine jb_cons (js_set 8 C (je_as (je_bin (je_bin (je_var 6) je_int (by walk_at "b")) (je_bin (je_var 3) (je_var 7) (by walk_at "b")) (.modI (by omega))) (show _ = D.int ((num / 64 % (n.wide + bendAt n num) : Nat) : Int) from rfl)) ?_)
    refine jb_cons (js_set 9 C (je_ix (je_as (je_f (jf_lst (jd_cons (je_tup (jd_cons (je_ix (je_ix (je_var 4) (je_var 7) x1) je_int (by walk_at "i")) (jd_cons (je_var 8) jd_nil))) (jd_cons (je_tup (jd_cons (je_var 8) (jd_cons (je_ix (je_ix (je_var 4) (je_var 7) x1) je_int (by walk_at "i")) jd_nil))) (jd_cons (je_back (je_ix (je_var 4) (je_var 7) x1)) jd_nil))))) (show _ = D.lst ([((n.steps.getD (bendAt n num) (0, 0)).1, num / 64 % (n.wide + bendAt n num)), (num / 64 % (n.wide + bendAt n num), (n.steps.getD (bendAt n num) (0, 0)).2), ((n.steps.getD (bendAt n num) (0, 0)).2, (n.steps.getD (bendAt n num) (0, 0)).1)].map eP) from rfl)) (je_as (je_bin (je_bin (je_var 6) je_int (by walk_at "b")) je_int (by walk_at "b")) (show _ = D.int ((num / 4096 % 3 : Nat) : Int) from rfl)) (ix_lst eP (0, 0) q3)) ?_)
    refine jb_cons (js_ret (je_tup (jd_cons (je_var 3) (jd_cons (je_f (jf_as (jf_cat (je_f (jf_cat (je_f (jf_as (jf_cut (je_var 4) jo_none (jo_some (je_var 7))) (cut_take _ _))) (je_f (jf_lst (jd_cons (je_var 9) jd_nil))) ?l1)) (je_f (jf_as (jf_cut (je_var 4) (jo_some (je_bin (je_var 7) je_int (by walk_at "b"))) jo_none) (cut_drop _ (bendAt n num + 1)))) ?l2) (set_cut _ (by rw [List.length_map]; exact hal)))) (jd_cons (je_var 5) jd_nil)))) ?_)
    case l1 => have := List.length_take_le (bendAt n num) (n.steps.map eP); rw [sizeLine_eq]; simp; simp at this; omega
    case l2 => rw [sizeLine_eq]; simp; omega
    show Res.ok _ = Res.ok _
    rw [bentN, if_pos hs]
    show Res.ok (D.tup [_, .lst ((n.steps.set (bendAt n num) (bendStep n num)).map eP), _]) = _
    rw [← set_map eP n.steps (bendAt n num) (bendStep n num) _ rfl]
    rfl
  have hs : ¬ (num % 8 = 0 ∧ n.steps ≠ []) := fun z => by
    simp [truD] at hb
    exact z.2 (hb (by omega))
  refine jb_nil ?_
  refine jb_cons (js_if (jt_cmp C (je_bin (je_var 6) je_int (by walk_at "b")) je_int (by walk_at "c")) (fun hb => ?_) (fun hb => ?_))
  · have h1 : num % 8 = 1 := by have := of_decide_eq_true hb; omega
    have hal := Nat.mod_lt (num / 8) (show n.wide > 0 by omega)
    refine jb_cons (js_set 7 C (je_as (je_bin (je_bin (je_var 6) je_int (by walk_at "b")) (je_var 3) (.modI (by omega))) (show _ = D.int ((num / 8 % n.wide : Nat) : Int) from rfl)) ?_)
    refine jb_cons (js_ret (je_tup (jd_cons (je_var 3) (jd_cons (je_var 4) (jd_cons (je_f (jf_as (jf_cat (je_f (jf_cat (je_f (jf_as (jf_cut (je_var 5) jo_none (jo_some (je_var 7))) (cut_take _ _))) (je_f (jf_lst (jd_cons (je_as (je_bin (je_bin (je_var 6) je_int (by walk_at "b")) (je_bin (je_var 3) (je_len T.len (je_var 4) (by walk_at "len")) (by walk_at "b")) (.modI (by omega))) (show _ = eN (num / 64 % (n.wide + n.steps.length)) by rw [List.length_map]; rfl)) jd_nil))) ?l1)) (je_f (jf_as (jf_cut (je_var 5) (jo_some (je_bin (je_var 7) je_int (by walk_at "b"))) jo_none) (cut_drop _ (num / 8 % n.wide + 1)))) ?l2) (set_cut _ (by rw [List.length_map]; omega)))) jd_nil)))) ?_)
    case l1 => have := List.length_take_le (num / 8 % n.wide) (n.outs.map eN); rw [sizeLine_eq]; simp; simp at this; omega
    case l2 => rw [sizeLine_eq]; simp; omega
    show Res.ok _ = Res.ok _
    rw [bentN, if_neg hs, if_pos h1]
    show Res.ok (D.tup [_, _, .lst ((n.outs.set (num / 8 % n.wide) (num / 64 % (n.wide + n.steps.length))).map eN)]) = _
    rw [← set_map eN n.outs _ (num / 64 % (n.wide + n.steps.length)) _ rfl]
  have h1 : ¬ num % 8 = 1 := by have := of_decide_eq_false hb; omega
  refine jb_nil ?_
  refine jb_cons (js_if (jt_cmp C (je_bin (je_var 6) je_int (by walk_at "b")) je_int (by walk_at "c")) (fun hb => ?_) (fun hb => ?_))
  · have h2 : num % 8 = 2 := by have := of_decide_eq_true hb; omega
    refine jb_cons (js_ret (je_tup (jd_cons (je_var 3) (jd_cons (je_f (jf_cat (je_var 4) (je_f (jf_lst (jd_cons (je_as (je_tup (jd_cons (je_bin (je_bin (je_var 6) je_int (by walk_at "b")) (je_bin (je_var 3) (je_len T.len (je_var 4) (by walk_at "len")) (by walk_at "b")) (.modI (by omega))) (jd_cons (je_bin (je_bin (je_var 6) je_int (by walk_at "b")) (je_var 3) (.modI (by omega))) jd_nil))) (show _ = eP (num / 64 % (n.wide + n.steps.length), num / 8 % n.wide) by rw [List.length_map]; rfl)) jd_nil))) ?l1)) (jd_cons (je_var 5) jd_nil)))) ?_)
    case l1 => rw [sizeLine_eq]; simp; omega
    show Res.ok _ = Res.ok _
    rw [bentN, if_neg hs, if_neg h1, if_pos h2]
    show Res.ok (D.tup [_, .lst ((n.steps ++ [(num / 64 % (n.wide + n.steps.length), num / 8 % n.wide)]).map eP), _]) = _
    rw [List.map_append]
    rfl
  have h2 : ¬ num % 8 = 2 := by have := of_decide_eq_false hb; omega
  refine jb_nil ?_
  refine jb_cons (js_ret (je_var 2) ?_)
  show Res.ok _ = Res.ok _
  rw [bentN, if_neg hs, if_neg h1, if_neg h2]
end
end Wk

namespace Sm
open PySem L2 DL
def eO : Option (Nat × Nat) → D
  | none => .non
  | some p => eP p
def eL (l : List Nat) : D := .lst (l.map eN)
theorem inj_eL : Inj eL := inj_lst inj_eN
def joinS : Option (Nat × Nat) → Option (Nat × Nat) → Option (Nat × Nat)
  | some a, some b => if a.2 + 1 = b.1 then some (a.1, b.2) else none
  | _, _ => none
def spF (l : List (Option (Nat × Nat))) (p : Nat × Nat) : List (Option (Nat × Nat)) := l ++ [joinS (l.getD p.1 none) (l.getD p.2 none)]
def spans0 (w : Nat) : List (Option (Nat × Nat)) := (List.range w).map fun x => some (x, x)
/-- for each node the stretch that it is, if it is one -/
def Nt.spans (n : Nt) : List (Option (Nat × Nat)) := n.steps.foldl spF (spans0 n.wide)
theorem spF_len (ps : List (Nat × Nat)) : ∀ l, (ps.foldl spF l).length = l.length + ps.length := by
  induction ps with
  | nil => intro l; rfl
  | cons p r ih => intro l; rw [List.foldl_cons, ih, spF, List.length_append, List.length_cons]; simp; omega
theorem Nt.spans_len (n : Nt) : n.spans.length = n.wide + n.steps.length := by rw [Nt.spans, spF_len, spans0, List.length_map, List.length_range]
def unitN (w t : Nat) : List Nat := (List.range w).map fun one => if one = t then 1 else 0
def addR (w : Nat) (a b : List Nat) : List Nat := (List.range w).map fun k => a.getD k 0 + b.getD k 0
def cntF (w : Nat) (l : List (List Nat)) (p : Nat × Nat) : List (List Nat) := l ++ [addR w (l.getD p.1 []) (l.getD p.2 [])]
def cnts0 (w : Nat) : List (List Nat) := (List.range w).map (unitN w)
/-- for each node how often it has each thing -/
def Nt.cnts (n : Nt) : List (List Nat) := n.steps.foldl (cntF n.wide) (cnts0 n.wide)
theorem cntF_len (w : Nat) (ps : List (Nat × Nat)) : ∀ l, (ps.foldl (cntF w) l).length = l.length + ps.length := by
  induction ps with
  | nil => intro l; rfl
  | cons p r ih => intro l; rw [List.foldl_cons, ih, cntF, List.length_append, List.length_cons]; simp; omega
theorem Nt.cnts_len (n : Nt) : n.cnts.length = n.wide + n.steps.length := by rw [Nt.cnts, cntF_len, cnts0, List.length_map, List.length_range]
theorem cntF_row (w : Nat) (ps : List (Nat × Nat)) : ∀ l : List (List Nat), (∀ r ∈ l, r.length = w) → ∀ r ∈ ps.foldl (cntF w) l, r.length = w := by
  induction ps with
  | nil => intro l h; exact h
  | cons p r ih =>
    intro l h
    rw [List.foldl_cons]
    refine ih _ fun r hr => ?_
    rcases List.mem_append.mp hr with hr | hr
    · exact h r hr
    · rw [List.mem_singleton.mp hr, addR, List.length_map, List.length_range]
theorem cnts0_row (w : Nat) : ∀ r ∈ cnts0 w, r.length = w := fun r hr => by
  obtain ⟨t, _, rfl⟩ := List.mem_map.mp hr
  rw [unitN, List.length_map, List.length_range]
theorem Nt.cnts_row (n : Nt) : ∀ r ∈ n.cnts, r.length = n.wide := cntF_row _ _ _ (cnts0_row _)
theorem getD_mem {α : Type} {l : List α} {i : Nat} (d : α) (h : i < l.length) : l.getD i d ∈ l := by
  rw [List.getD_eq_getElem?_getD, List.getElem?_eq_getElem h]
  exact List.getElem_mem h
def uptoN (w k : Nat) : List Nat := (List.range w).map fun t => if t ≤ k then 1 else 0
/-- out k does not tell its sum, for a kind -/
def badOut (n : Nt) (s : Str) (k : Nat) : Bool :=
  (decide (s = "any") && !decide (n.spans.getD (n.outs.getD k 0) none = some (0, k))) || ((decide (s = "commuting") && !decide (n.cnts.getD (n.outs.getD k 0) [] = uptoN n.wide k)) || (decide (s = "greatest") && !decide ((n.cnts.getD (n.outs.getD k 0) []).map (fun x => decide (0 < x)) = (List.range n.wide).map fun t => decide (t ≤ k))))
def wrongN (n : Nt) (s : Str) : Option Nat := (List.range n.wide).find? (badOut n s)
theorem find_at {p : Nat → Bool} {m k : Nat} (hk : k < m) (h1 : ∀ j, j < k → p j = false) (h2 : p k = true) : (List.range m).find? p = some k := by
  have e : List.range m = List.range k ++ (k :: (List.range' (k + 1) (m - k - 1))) := by
    rw [List.range_eq_range', List.range_eq_range']
    have : m = k + (1 + (m - k - 1)) := by omega
    conv => lhs; rw [this]
    rw [← List.range'_append_1, Nat.zero_add, Nat.add_comm 1, List.range'_succ]
  rw [e, List.find?_append]
  have z : (List.range k).find? p = none := List.find?_eq_none.mpr fun x hx => by rw [h1 x (List.mem_range.mp hx)]; exact Bool.false_ne_true
  rw [z, List.find?_cons, h2]
  rfl
theorem find_no {p : Nat → Bool} {m : Nat} (h1 : ∀ j, j < m → p j = false) : (List.range m).find? p = none := List.find?_eq_none.mpr fun x hx => by rw [h1 x (List.mem_range.mp hx)]; exact Bool.false_ne_true
theorem inj_eO : Inj eO := fun x y => by
  cases x with
  | none => cases y with
    | none => rfl
    | some q => rfl
  | some p => cases y with
    | none => rfl
    | some q =>
      have h := inj_eP p q
      show D.eqv (eP p) (eP q) = _
      rw [h, decide_eq_decide]
      exact ⟨fun z => by rw [z], fun z => Option.some.inj z⟩
theorem sh_eO (n : Nat) (p : Option (Nat × Nat)) : Sh (n + 1) (eO p) := by
  cases p with
  | none => exact sh_non _
  | some p => exact sh_eP n p
theorem b2i_eN (b : Bool) : D.int (b2i b) = eN (if b = true then 1 else 0) := by cases b <;> rfl
/-- the row that shows that an out is not its sum -/
def brkBad (n : Nt) (s : Str) (out : Nat) : List Nat := (List.range n.wide).filter fun t => if s = "greatest" then !decide (decide (0 < (n.cnts.getD (n.outs.getD out 0) []).getD t 0) = decide (t ≤ out)) else !decide ((n.cnts.getD (n.outs.getD out 0) []).getD t 0 = if t ≤ out then 1 else 0)
def thingS (t : Nat) : Str := "a" ++ (toString (t : Int) : Str) ++ "."
theorem thing_small : ∀ t : Nat, t < 64 → (t : Int).natAbs.log2 < 1920 ∧ ("a" : Str).length + (toString (t : Int) : Str).length ≤ 1000 ∧ (("a" : Str) ++ (toString (t : Int) : Str)).length + ("." : Str).length ≤ 1000 ∧ PyData.strOk (thingS t) = true := by decide +kernel
def brkN (n : Nt) (s : Str) (out : Nat) : D := if s = "any" then .lst ((List.range n.wide).map fun t => .str (thingS t)) else eL (unitN n.wide ((brkBad n s out).getD 0 0))
def judgN (n : Nt) (s : Str) : D := match wrongN n s with
  | none => .tup [.str "right"]
  | some k => .tup [.str "wrong", eN k, brkN n s k]
theorem ext_getD2 {α : Type} {l m : List α} (d : α) (h : l.length = m.length) (h2 : ∀ x, x < l.length → l.getD x d = m.getD x d) : l = m := by
  refine List.ext_getElem h fun i h1 h3 => ?_
  have := h2 i h1
  rw [List.getD_eq_getElem?_getD, List.getD_eq_getElem?_getD, List.getElem?_eq_getElem h1, List.getElem?_eq_getElem h3] at this
  exact this
theorem getD_mapR {α : Type} (f : Nat → α) {m x : Nat} (d : α) (h : x < m) : ((List.range m).map f).getD x d = f x := by
  rw [List.getD_eq_getElem?_getD, List.getElem?_map, List.getElem?_range h]
  rfl
theorem getD_map {α β : Type} (f : α → β) {d : β} {d0 : α} {l : List α} {t : Nat} (h : t < l.length) : (l.map f).getD t d = f (l.getD t d0) := by
  rw [List.getD_eq_getElem?_getD, List.getElem?_map, List.getD_eq_getElem?_getD, List.getElem?_eq_getElem h]
  rfl
theorem bnot_dec {p : Prop} [Decidable p] (h : (!decide p) = true) : ¬ p := fun z => by rw [decide_eq_true z] at h; cases h
theorem bnot_decF {p : Prop} [Decidable p] (h : (!decide p) = false) : p := by
  by_cases z : p
  · exact z
  · rw [decide_eq_false z] at h; cases h
/-- a wrong out has a thing that shows it -/
theorem brk_some {n : Nt} (hg : n.good) {s : Str} {k : Nat} (hs : s ≠ "any") (h : wrongN n s = some k) : brkBad n s k ≠ [] := fun e => by
  obtain ⟨hb, hk⟩ : badOut n s k = true ∧ k < n.wide := ⟨List.find?_some h, List.mem_range.mp (List.mem_of_find?_eq_some h)⟩
  have ho : n.outs.getD k 0 < n.wide + n.steps.length := hg.os _ (getD_mem 0 (by rw [hg.lo]; exact hk))
  have hr : (n.cnts.getD (n.outs.getD k 0) []).length = n.wide := n.cnts_row _ (getD_mem [] (by rw [n.cnts_len]; exact ho))
  have none_ : ∀ t, t < n.wide → (if s = "greatest" then !decide (decide (0 < (n.cnts.getD (n.outs.getD k 0) []).getD t 0) = decide (t ≤ k)) else !decide ((n.cnts.getD (n.outs.getD k 0) []).getD t 0 = if t ≤ k then 1 else 0)) = false := fun t ht => by
    cases q : (if s = "greatest" then !decide (decide (0 < (n.cnts.getD (n.outs.getD k 0) []).getD t 0) = decide (t ≤ k)) else !decide ((n.cnts.getD (n.outs.getD k 0) []).getD t 0 = if t ≤ k then 1 else 0)) with
    | false => rfl
    | true =>
      have m : t ∈ brkBad n s k := List.mem_filter.mpr ⟨List.mem_range.mpr ht, q⟩
      rw [e] at m
      cases m
  unfold badOut at hb
  rw [decide_eq_false hs, Bool.false_and, Bool.false_or, Bool.or_eq_true, Bool.and_eq_true, Bool.and_eq_true] at hb
  rcases hb with ⟨h1, h2⟩ | ⟨h1, h2⟩
  · have es : s = "commuting" := of_decide_eq_true h1
    subst es
    refine absurd (ext_getD2 0 ?_ fun t ht => ?_) (bnot_dec h2)
    · rw [hr, uptoN, List.length_map, List.length_range]
    · rw [hr] at ht
      have := none_ t ht
      rw [if_neg (by decide)] at this
      rw [uptoN, getD_mapR _ _ ht]
      exact bnot_decF this
  · have es : s = "greatest" := of_decide_eq_true h1
    subst es
    refine absurd (ext_getD2 false ?_ fun t ht => ?_) (bnot_dec h2)
    · rw [List.length_map, hr, List.length_map, List.length_range]
    · rw [List.length_map, hr] at ht
      have := none_ t ht
      rw [if_pos rfl] at this
      rw [getD_mapR _ _ ht]
      have e2 := getD_map (fun x => decide (0 < x)) (d := false) (d0 := 0) (l := n.cnts.getD (n.outs.getD k 0) []) (t := t) (by omega)
      rw [e2]
      exact bnot_decF this
end Sm

namespace Sm
open PySem L2 DL
theorem ix_last {α : Type} (f : α → D) {l : List α} (x : α) (h : l ≠ []) : IxD (.lst (l.map f)) (.int (-1)) (f (l.getD (l.length - 1) x)) := by
  have hp : 0 < l.length := List.length_pos_iff.mpr h
  refine .lst ?_
  unfold L2.atI L2.ixN
  rw [List.length_map, if_neg (by omega), if_pos (by omega)]
  have e : ((-1 : Int) + (l.length : Int)).toNat = l.length - 1 := by omega
  rw [e]
  show (l.map f)[l.length - 1]? = _
  rw [List.getElem?_map, List.getElem?_eq_getElem (by omega), List.getD_eq_getElem?_getD, List.getElem?_eq_getElem (by omega)]
  rfl
theorem sh_right (n : Nat) : Sh (n + 1) (.tup [.str "right"]) := show ∀ x ∈ _, Sh n x from sh_cons (by cases n <;> exact (show PyData.strOk _ = true by decide +kernel)) sh_nil
theorem sh_judg {n : Nt} (hw : n.wide ≤ 64) (s : Str) : Sh 2 (judgN n s) := by
  have st : ∀ (m : Nat) (z : Str), PyData.strOk z = true → Sh m (.str z) := fun m z h => by cases m <;> exact h
  have wr : PyData.strOk ("wrong" : Str) = true := by decide +kernel
  unfold judgN
  cases wrongN n s with
  | none => exact sh_right 1
  | some k =>
    refine show ∀ x ∈ _, Sh 1 x from sh_cons (st _ _ wr) (sh_cons (sh_eN _ _) (sh_cons ?_ sh_nil))
    unfold brkN
    split
    · exact sh_lst fun t ht => st 0 _ (thing_small t (by have := List.mem_range.mp ht; omega)).2.2.2
    · exact sh_lst fun x _ => sh_eN 0 x
theorem judg_right (n : Nt) (s : Str) : D.eqv (judgN n s) (.tup [.str "right"]) = (wrongN n s).isNone := by
  unfold judgN
  cases wrongN n s with
  | none => show D.eqv (.tup [.str "right"]) _ = true; rw [eqv_tups, eqvs, eqvs, eqv_str]; rfl
  | some k => show D.eqv (.tup [.str "wrong", eN k, brkN n s k]) _ = false; rw [eqv_tups, eqvs, eqv_str]; rfl
end Sm

namespace Sm
open PySem L2 DL
def depF (l : List Nat) (p : Nat × Nat) : List Nat := l ++ [1 + max (l.getD p.1 0) (l.getD p.2 0)]
/-- the depths of the nodes -/
def Nt.dep (n : Nt) : List Nat := n.steps.foldl depF (List.replicate n.wide 0)
theorem dep_len (steps : List (Nat × Nat)) : ∀ l, (steps.foldl depF l).length = l.length + steps.length := by
  induction steps with
  | nil => intro l; rfl
  | cons p r ih => intro l; rw [List.foldl_cons, ih, depF, List.length_append, List.length_cons]; simp; omega
theorem Nt.dep_len (n : Nt) : n.dep.length = n.wide + n.steps.length := by rw [Nt.dep, Sm.dep_len, List.length_replicate]
def maxN : List Nat → Nat
  | [] => 0
  | x :: r => max x (maxN r)
theorem maxN_ge : ∀ {l : List Nat} {x : Nat}, x ∈ l → x ≤ maxN l
  | y :: r, x, h => by
    rw [maxN]
    rcases List.mem_cons.mp h with rfl | h
    · omega
    · have := maxN_ge h; omega
theorem maxN_mem : ∀ {l : List Nat}, l ≠ [] → maxN l ∈ l
  | [x], _ => by rw [maxN, maxN]; simp
  | x :: y :: r, _ => by
    have ih := maxN_mem (l := y :: r) (by simp)
    rw [maxN]
    by_cases h : x ≤ maxN (y :: r)
    · rw [Nat.max_eq_right h]; exact List.mem_cons_of_mem _ ih
    · rw [Nat.max_eq_left (by omega)]; exact List.mem_cons_self
/-- the depth of a net -/
def Nt.depth (n : Nt) : Nat := maxN (n.outs.map fun o => n.dep.getD o 0)
def setT (l : List Bool) (o : Nat) : List Bool := l.set o true
def usF (n : Nt) (l : List Bool) (i : Nat) : List Bool := if l.getD (n.wide + (n.steps.length - 1 - i)) false = true then [(n.steps.getD (n.steps.length - 1 - i) (0, 0)).1, (n.steps.getD (n.steps.length - 1 - i) (0, 0)).2].foldl setT l else l
def Nt.us0 (n : Nt) : List Bool := n.outs.foldl setT (List.replicate (n.wide + n.steps.length) false)
/-- which nodes are used -/
def Nt.used (n : Nt) : List Bool := (List.range n.steps.length).foldl (usF n) n.us0
theorem setT_len (os : List Nat) : ∀ l, (os.foldl setT l).length = l.length := by
  induction os with
  | nil => intro l; rfl
  | cons o r ih => intro l; rw [List.foldl_cons, ih, setT, List.length_set]
theorem usF_len (n : Nt) (l : List Bool) (i : Nat) : (usF n l i).length = l.length := by
  unfold usF
  split
  · exact setT_len _ _
  · rfl
theorem us0_len (n : Nt) : n.us0.length = n.wide + n.steps.length := by rw [Nt.us0, setT_len, List.length_replicate]
theorem usFs_len (n : Nt) (is : List Nat) : ∀ l, (is.foldl (usF n) l).length = l.length := by
  induction is with
  | nil => intro l; rfl
  | cons o r ih => intro l; rw [List.foldl_cons, ih, usF_len]
theorem Nt.used_len (n : Nt) : n.used.length = n.wide + n.steps.length := by rw [Nt.used, usFs_len, us0_len]
def inc (l : List Nat) (o : Nat) : List Nat := l.set o (l.getD o 0 + 1)
theorem inc_len (os : List Nat) : ∀ l, (os.foldl inc l).length = l.length := by
  induction os with
  | nil => intro l; rfl
  | cons o r ih => intro l; rw [List.foldl_cons, ih, inc, List.length_set]
def incP (l : List Nat) (p : Nat × Nat) : List Nat := [p.1, p.2].foldl inc l
theorem incP_len (ps : List (Nat × Nat)) : ∀ l, (ps.foldl incP l).length = l.length := by
  induction ps with
  | nil => intro l; rfl
  | cons o r ih => intro l; rw [List.foldl_cons, ih, incP, inc_len]
/-- how often each node stands -/
def Nt.fan (n : Nt) : List Nat := n.outs.foldl inc (n.steps.foldl incP (List.replicate (n.wide + n.steps.length) 0))
theorem Nt.fan_len (n : Nt) : n.fan.length = n.wide + n.steps.length := by rw [Nt.fan, inc_len, incP_len, List.length_replicate]
end Sm

namespace Sm
open PySem L2 DL
theorem getD_snoc {α : Type} (l : List α) (x d : α) (i : Nat) : (l ++ [x]).getD i d = if i < l.length then l.getD i d else if i = l.length then x else d := by
  rw [List.getD_eq_getElem?_getD, List.getD_eq_getElem?_getD]
  by_cases h : i < l.length
  · rw [List.getElem?_append_left h, if_pos h]
  · rw [List.getElem?_append_right (by omega), if_neg h]
    by_cases e : i = l.length
    · rw [if_pos e, e, Nat.sub_self]; rfl
    · rw [if_neg e]
      have : ([x] : List α)[i - l.length]? = none := by
        rw [List.getElem?_eq_none]
        show 1 ≤ _
        omega
      rw [this]; rfl
end Sm

namespace Sm
open PySem L2 DL
def spanAt (w : Nat) (st : Ps) (x : Nat) : Option (Nat × Nat) := (st.foldl spF (spans0 w)).getD x none
def depAt (w : Nat) (st : Ps) (x : Nat) : Nat := (st.foldl depF (List.replicate w 0)).getD x 0
def okS (w : Nat) (st : Ps) : Prop := ∀ (k : Nat) (p : Nat × Nat), st[k]? = some p → p.1 < w + k ∧ p.2 < w + k
/-- the node x is the stretch a .. b, no deeper than d -/
structure Is (w : Nat) (st : Ps) (x a b d : Nat) : Prop where
  lt : x < w + st.length
  sp : spanAt w st x = some (a, b)
  dp : depAt w st x ≤ d
theorem spl (w : Nat) (st : Ps) : (st.foldl spF (spans0 w)).length = w + st.length := by rw [spF_len, spans0, List.length_map, List.length_range]
theorem dpl (w : Nat) (st : Ps) : (st.foldl depF (List.replicate w 0)).length = w + st.length := by rw [dep_len, List.length_replicate]
theorem span_old {w : Nat} {st : Ps} {p : Nat × Nat} {x : Nat} (h : x < w + st.length) : spanAt w (st ++ [p]) x = spanAt w st x := by
  unfold spanAt
  rw [List.foldl_append]
  show (spF _ p).getD x none = _
  rw [spF, getD_snoc, spl, if_pos h]
theorem dep_old {w : Nat} {st : Ps} {p : Nat × Nat} {x : Nat} (h : x < w + st.length) : depAt w (st ++ [p]) x = depAt w st x := by
  unfold depAt
  rw [List.foldl_append]
  show (depF _ p).getD x 0 = _
  rw [depF, getD_snoc, dpl, if_pos h]
theorem span_new (w : Nat) (st : Ps) (p : Nat × Nat) : spanAt w (st ++ [p]) (w + st.length) = joinS (spanAt w st p.1) (spanAt w st p.2) := by
  unfold spanAt
  rw [List.foldl_append]
  show (spF _ p).getD _ none = _
  rw [spF, getD_snoc, spl, if_neg (Nat.lt_irrefl _), if_pos rfl]
theorem dep_new (w : Nat) (st : Ps) (p : Nat × Nat) : depAt w (st ++ [p]) (w + st.length) = 1 + max (depAt w st p.1) (depAt w st p.2) := by
  unfold depAt
  rw [List.foldl_append]
  show (depF _ p).getD _ 0 = _
  rw [depF, getD_snoc, dpl, if_neg (Nat.lt_irrefl _), if_pos rfl]
theorem Is.old {w : Nat} {st : Ps} {x a b d : Nat} (h : Is w st x a b d) (p : Nat × Nat) : Is w (st ++ [p]) x a b d :=
  ⟨by rw [List.length_append]; have := h.lt; omega, by rw [span_old h.lt]; exact h.sp, by rw [dep_old h.lt]; exact h.dp⟩
theorem Is.new {w : Nat} {st : Ps} {x y a c b d : Nat} (h : Is w st x a c d) (h2 : Is w st y (c + 1) b d) : Is w (st ++ [(x, y)]) (w + st.length) a b (d + 1) :=
  ⟨by rw [List.length_append]; show _ < w + (_ + 1); omega, by
    rw [span_new, h.sp, h2.sp]
    show (if c + 1 = c + 1 then some (a, b) else none) = _
    rw [if_pos rfl], by
    rw [dep_new]
    have := h.dp; have := h2.dp
    dsimp only
    omega⟩
theorem Is.mono {w : Nat} {st : Ps} {x a b d e : Nat} (h : Is w st x a b d) (he : d ≤ e) : Is w st x a b e := ⟨h.lt, h.sp, Nat.le_trans h.dp he⟩
theorem okS.new {w : Nat} {st : Ps} {p : Nat × Nat} (h : okS w st) (h1 : p.1 < w + st.length) (h2 : p.2 < w + st.length) : okS w (st ++ [p]) := fun k q hq => by
  by_cases hk : k < st.length
  · rw [List.getElem?_append_left hk] at hq
    exact h k q hq
  · rw [List.getElem?_append_right (by omega)] at hq
    cases e : k - st.length with
    | zero =>
      rw [e] at hq
      have hq : p = q := Option.some.inj hq
      subst hq
      omega
    | succ i => rw [e] at hq; cases hq
/-- more steps, all else as it was -/
structure Gr (w : Nat) (st st' : Ps) : Prop where
  ok : okS w st → okS w st'
  is : ∀ x a b d, Is w st x a b d → Is w st' x a b d
theorem Gr.refl (w : Nat) (st : Ps) : Gr w st st := ⟨fun h => h, fun _ _ _ _ h => h⟩
theorem Gr.trans {w : Nat} {a b c : Ps} (h : Gr w a b) (k : Gr w b c) : Gr w a c := ⟨fun z => k.ok (h.ok z), fun x i j d z => k.is x i j d (h.is x i j d z)⟩
theorem Gr.one {w : Nat} {st : Ps} {p : Nat × Nat} (h1 : p.1 < w + st.length) (h2 : p.2 < w + st.length) : Gr w st (st ++ [p]) := ⟨fun h => h.new h1 h2, fun _ _ _ _ h => h.old p⟩
/-- many steps at once, of nodes that were there -/
theorem adds {w : Nat} {st : Ps} {a b : Nat → Nat} {d : Nat} : ∀ (ps qs : Ps), Gr w st (st ++ ps) → (∀ i, i < ps.length → Is w (st ++ ps) (w + st.length + i) (a i) (b i) (d + 1)) →
    (∀ (i : Nat) (p : Nat × Nat), qs[i]? = some p → ∃ c, Is w st p.1 (a (ps.length + i)) c d ∧ Is w st p.2 (c + 1) (b (ps.length + i)) d) →
    Gr w st (st ++ (ps ++ qs)) ∧ ∀ i, i < (ps ++ qs).length → Is w (st ++ (ps ++ qs)) (w + st.length + i) (a i) (b i) (d + 1)
  | ps, [], g, h, _ => by rw [List.append_nil]; exact ⟨g, h⟩
  | ps, q :: qs, g, h, hq => by
    obtain ⟨c, h1, h2⟩ := hq 0 q rfl
    have k1 := g.is _ _ _ _ h1
    have k2 := g.is _ _ _ _ h2
    have e : ps ++ q :: qs = (ps ++ [q]) ++ qs := by rw [List.append_assoc]; rfl
    have e2 : st ++ (ps ++ [q]) = (st ++ ps) ++ [q] := by rw [List.append_assoc]
    rw [e]
    refine adds (ps ++ [q]) qs ?_ (fun i hi => ?_) (fun i p hp => ?_)
    · rw [e2]
      exact g.trans (Gr.one k1.lt k2.lt)
    · rw [e2]
      rw [List.length_append] at hi
      by_cases hlt : i < ps.length
      · exact (h i hlt).old q
      · have ei : i = ps.length := by
          have : [q].length = 1 := rfl
          omega
        subst ei
        have z := k1.new k2
        rw [List.length_append] at z
        rw [Nat.add_assoc]
        exact z
    · rw [List.length_append]
      have := hq (i + 1) p hp
      have e3 : ps.length + [q].length + i = ps.length + (i + 1) := by show ps.length + 1 + i = _; omega
      rw [e3]
      exact this
theorem adds0 {w : Nat} {st : Ps} {a b : Nat → Nat} {d : Nat} (qs : Ps) (hq : ∀ (i : Nat) (p : Nat × Nat), qs[i]? = some p → ∃ c, Is w st p.1 (a i) c d ∧ Is w st p.2 (c + 1) (b i) d) :
    Gr w st (st ++ qs) ∧ ∀ i, i < qs.length → Is w (st ++ qs) (w + st.length + i) (a i) (b i) (d + 1) := by
  have h := adds (w := w) (st := st) (a := a) (b := b) (d := d) [] qs (by rw [List.append_nil]; exact Gr.refl _ _) (fun i hi => absurd hi (Nat.not_lt_zero _)) (fun i p hp => by
    have e : ([] : Ps).length + i = i := Nat.zero_add _
    rw [e]
    exact hq i p hp)
  rwa [List.nil_append] at h
theorem fold_inv {α γ : Type} (g : γ → α → γ) (P : Nat → γ → Prop) (l : List α) {b0 : γ} (h0 : P 0 b0) (hs : ∀ i a b, l[i]? = some a → P i b → P (i + 1) (g b a)) : P l.length (l.foldl g b0) := by
  have h : ∀ k, k ≤ l.length → P k ((l.take k).foldl g b0) := by
    intro k
    induction k with
    | zero => intro _; exact h0
    | succ k ih =>
      intro hk
      have e : l[k]? = some l[k] := List.getElem?_eq_getElem (by omega)
      rw [List.take_add_one, e, List.foldl_append]
      exact hs k _ _ e (ih (by omega))
  have := h l.length (Nat.le_refl _)
  rwa [List.take_length] at this
theorem getD_nodes {w : Nat} {st : Ps} {n i : Nat} (h : i < n) : (nodesS w st n).getD i 0 = w + st.length + i := by
  unfold nodesS
  rw [getD_mapR _ _ h]
theorem getD_app {l m : List Nat} {i : Nat} : (l ++ m).getD i 0 = if i < l.length then l.getD i 0 else m.getD (i - l.length) 0 := by
  rw [List.getD_eq_getElem?_getD]
  by_cases h : i < l.length
  · rw [if_pos h, List.getElem?_append_left h, List.getD_eq_getElem?_getD]
  · rw [if_neg h, List.getElem?_append_right (by omega), List.getD_eq_getElem?_getD]
theorem getD_take {l : List Nat} {k i : Nat} (h : i < k) : (l.take k).getD i 0 = l.getD i 0 := by
  rw [List.getD_eq_getElem?_getD, List.getD_eq_getElem?_getD, List.getElem?_take, if_pos h]
theorem getD_drop {l : List Nat} {k i : Nat} : (l.drop k).getD i 0 = l.getD (k + i) 0 := by
  rw [List.getD_eq_getElem?_getD, List.getD_eq_getElem?_getD, List.getElem?_drop]
theorem get_getD {α : Type} {l : List α} {i : Nat} {x d : α} (h : l[i]? = some x) : l.getD i d = x := by
  rw [List.getD_eq_getElem?_getD, h]; rfl
/-- nodes that are stretches behind one another -/
structure Row (w : Nat) (st : Ps) (so : List Nat) (f l : Nat → Nat) (d : Nat) : Prop where
  is : ∀ i, i < so.length → Is w st (so.getD i 0) (f i) (l i) d
  nx : ∀ i, i + 1 < so.length → l i + 1 = f (i + 1)
/-- what a laying tells: all stretches from the first on -/
structure Laid (w : Nat) (st : Ps) (n : Nat) (f l : Nat → Nat) (r : List Nat × Ps) (d : Nat) : Prop where
  gr : Gr w st r.2
  ln : r.1.length = n
  is : ∀ i, i < n → Is w r.2 (r.1.getD i 0) (f 0) (l i) d
theorem Row.on {w : Nat} {st st' : Ps} {so : List Nat} {f l : Nat → Nat} {d e : Nat} (h : Row w st so f l d) (g : Gr w st st') (he : d ≤ e) : Row w st' so f l e := ⟨fun i hi => (g.is _ _ _ _ (h.is i hi)).mono he, h.nx⟩
theorem line_laid {w : Nat} {st : Ps} {so : List Nat} {f l : Nat → Nat} {d : Nat} (h : Row w st so f l d) : Laid w st so.length f l (lineF w so st) (d + so.length) := by
  have z := fold_inv (linF w) (fun k p => p.1.length = k ∧ Gr w st p.2 ∧ ∀ i, i < k → Is w p.2 (p.1.getD i 0) (f 0) (l i) (d + i)) so (b0 := ([], st)) ⟨rfl, Gr.refl _ _, fun i hi => absurd hi (Nat.not_lt_zero _)⟩ (fun k one p ha ⟨h1, h2, h3⟩ => by
    have hk := (List.getElem?_eq_some_iff.mp ha).1
    have hone := h.is k hk
    rw [get_getD ha] at hone
    unfold linF
    by_cases hne : p.1 = []
    · have ek : k = 0 := by rw [← h1, hne]; rfl
      subst ek
      rw [if_pos hne]
      refine ⟨by rw [hne]; rfl, h2, fun i hi => ?_⟩
      have ei : i = 0 := by omega
      subst ei
      rw [hne]
      exact h2.is _ _ _ _ hone
    · rw [if_neg hne]
      have kp : 0 < k := by rw [← h1]; exact List.length_pos_iff.mpr hne
      have hl := h3 (k - 1) (by omega)
      have el : lastN p.1 = p.1.getD (k - 1) 0 := by unfold lastN; rw [h1]
      have n1 : Is w p.2 one (l (k - 1) + 1) (l k) (d + (k - 1)) := by
        have e := h.nx (k - 1) (by omega)
        have e2 : k - 1 + 1 = k := by omega
        rw [e2] at e
        rw [e]
        exact (h2.is _ _ _ _ hone).mono (by omega)
      rw [← el] at hl
      have nw := hl.new n1
      refine ⟨by rw [List.length_append, h1]; rfl, h2.trans (Gr.one hl.lt n1.lt), fun i hi => ?_⟩
      rw [getD_snoc, h1]
      by_cases hlt : i < k
      · rw [if_pos hlt]
        exact (h3 i hlt).old _
      · have ei : i = k := by omega
        subst ei
        rw [if_neg hlt, if_pos rfl]
        have e3 : d + (i - 1) + 1 = d + i := by omega
        rw [e3] at nw
        exact nw)
  obtain ⟨z1, z2, z3⟩ := z
  exact ⟨z2, z1, fun i hi => (z3 i hi).mono (by omega)⟩
theorem halves_laid {w : Nat} : ∀ (m : Nat) (so : List Nat) (st : Ps) (f l : Nat → Nat) (d t : Nat), 1 ≤ so.length → so.length ≤ 2 ^ m → so.length ≤ 2 ^ t → Row w st so f l d → Laid w st so.length f l (halvesF w m so st) (d + t) := by
  intro m
  induction m with
  | zero =>
    intro so st f l d t h1 h2 ht h
    have e : so.length = 1 := by have : so.length ≤ 1 := h2; omega
    refine ⟨Gr.refl _ _, rfl, fun i hi => ?_⟩
    have ei : i = 0 := by omega
    subst ei
    exact (h.is 0 (by omega)).mono (by omega)
  | succ m ih =>
    intro so st f l d t h1 h2 ht h
    by_cases hlt : so.length < 2
    · rw [halvesF, if_pos hlt]
      refine ⟨Gr.refl _ _, rfl, fun i hi => ?_⟩
      have ei : i = 0 := by omega
      subst ei
      exact (h.is 0 (by omega)).mono (by omega)
    · cases t with
      | zero =>
        have : so.length ≤ 1 := ht
        omega
      | succ t =>
        rw [halvesF, if_neg hlt]
        obtain ⟨hf, ehf⟩ : ∃ hf, hf = (so.length + 1) / 2 := ⟨_, rfl⟩
        rw [← ehf]
        have p2 : 2 ^ (m + 1) = 2 * 2 ^ m := by rw [Nat.pow_succ]; omega
        have q2 : 2 ^ (t + 1) = 2 * 2 ^ t := by rw [Nat.pow_succ]; omega
        have la : (so.take hf).length = hf := by rw [List.length_take]; omega
        have lb : (so.drop hf).length = so.length - hf := by rw [List.length_drop]
        have A := ih (so.take hf) st f l d t (by omega) (by omega) (by omega) ⟨fun i hi => by rw [getD_take (by omega)]; exact h.is i (by omega), fun i hi => h.nx i (by omega)⟩
        generalize halvesF w m (so.take hf) st = RA at *
        rw [la] at A
        have B := ih (so.drop hf) RA.2 (fun i => f (hf + i)) (fun i => l (hf + i)) d t (by omega) (by omega) (by omega) ⟨fun i hi => by rw [getD_drop]; exact A.gr.is _ _ _ _ (h.is (hf + i) (by omega)), fun i hi => h.nx (hf + i) (by omega)⟩
        generalize halvesF w m (so.drop hf) RA.2 = RB at *
        rw [lb] at B
        have lastA := B.gr.is _ _ _ _ (A.is (hf - 1) (by omega))
        have eA : RA.1.getD (hf - 1) 0 = lastN RA.1 := by unfold lastN; rw [A.ln]
        rw [eA] at lastA
        have ej : l (hf - 1) + 1 = f hf := by
          have := h.nx (hf - 1) (by omega)
          have e2 : hf - 1 + 1 = hf := by omega
          rwa [e2] at this
        obtain ⟨g1, g2⟩ := adds0 (w := w) (st := RB.2) (a := fun _ => f 0) (b := fun i => l (hf + i)) (d := d + t) (RB.1.map fun one => (lastN RA.1, one)) (fun i p hp => by
          rw [List.getElem?_map] at hp
          cases e : RB.1[i]? with
          | none => rw [e] at hp; cases hp
          | some one =>
            rw [e] at hp
            have hp : (lastN RA.1, one) = p := Option.some.inj hp
            subst hp
            have hi := (List.getElem?_eq_some_iff.mp e).1
            have := B.is i (by rw [← B.ln]; exact hi)
            rw [get_getD e] at this
            refine ⟨l (hf - 1), lastA, ?_⟩
            rw [ej]
            exact this)
        rw [List.length_map, B.ln] at g2
        unfold joinH
        refine ⟨(A.gr.trans B.gr).trans g1, by dsimp only; rw [List.length_append, nodesS_len, A.ln, B.ln]; omega, fun i hi => ?_⟩
        dsimp only
        rw [getD_app, A.ln]
        by_cases hi2 : i < hf
        · rw [if_pos hi2]
          exact ((B.gr.trans g1).is _ _ _ _ (A.is i hi2)).mono (by omega)
        · rw [if_neg hi2, B.ln, getD_nodes (by omega)]
          have := g2 (i - hf) (by omega)
          have e2 : hf + (i - hf) = i := by omega
          rw [e2] at this
          exact this
theorem stride_laid {w : Nat} {st : Ps} {n : Nat} {f l : Nat → Nat} {d T : Nat} (hT : n ≤ 2 ^ T) (nx : ∀ i, i + 1 < n → l i + 1 = f (i + 1)) : ∀ (m s t : Nat) (g : List Nat) (u : Ps), n ≤ s + m → s = 2 ^ t → t ≤ T → g.length = n → Gr w st u → u.length ≤ st.length + t * n →
    (∀ i, i < n → Is w u (g.getD i 0) (f (i + 1 - s)) (l i) (d + t)) → Laid w st n f l (strideF w n m s g u) (d + T) ∧ (strideF w n m s g u).2.length ≤ st.length + T * n
  | 0, s, t, g, u, hm, hs, ht, hg, hu, hz, hi => by
    refine ⟨⟨hu, hg, fun i hlt => ?_⟩, Nat.le_trans hz (Nat.add_le_add_left (Nat.mul_le_mul_right _ ht) _)⟩
    have := hi i hlt
    have e : i + 1 - s = 0 := by omega
    rw [e] at this
    exact this.mono (by omega)
  | m + 1, s, t, g, u, hm, hs, ht, hg, hu, hz, hi => by
    by_cases hlt : s < n
    · rw [strideF, if_pos hlt]
      have s1 : 1 ≤ s := by rw [hs]; exact Nat.one_le_two_pow
      have tT : t < T := by
        rcases Nat.lt_or_ge t T with h | h
        · exact h
        · exfalso
          have : t = T := by omega
          subst this
          omega
      have es : 2 * s = 2 ^ (t + 1) := by rw [Nat.pow_succ, hs]; omega
      obtain ⟨g1, g2⟩ := adds0 (w := w) (st := u) (a := fun i => f (s + i + 1 - 2 * s)) (b := fun i => l (s + i)) (d := d + t) ((List.range (n - s)).map (stepSt g s)) (fun i p hp => by
        rw [List.getElem?_map] at hp
        cases e : (List.range (n - s))[i]? with
        | none => rw [e] at hp; cases hp
        | some j =>
          rw [e] at hp
          obtain ⟨hj1, hj2⟩ := List.getElem?_eq_some_iff.mp e
          rw [List.length_range] at hj1
          rw [List.getElem_range] at hj2
          subst hj2
          have hp : stepSt g s i = p := Option.some.inj hp
          subst hp
          have e1 : s + i - s = i := by omega
          have a1 := hi i (by omega)
          have a2 := hi (s + i) (by omega)
          refine ⟨l i, ?_, ?_⟩
          · show Is w u (g.getD (s + i - s) 0) (f (s + i + 1 - 2 * s)) (l i) (d + t)
            rw [e1]
            have e2 : s + i + 1 - 2 * s = i + 1 - s := by omega
            rw [e2]
            exact a1
          · show Is w u (g.getD (s + i) 0) (l i + 1) (l (s + i)) (d + t)
            rw [nx i (by omega)]
            have e2 : s + i + 1 - s = i + 1 := by omega
            rw [e2] at a2
            exact a2)
      rw [List.length_map, List.length_range] at g2
      refine stride_laid hT nx m (2 * s) (t + 1) _ _ (by omega) es (by omega) (by rw [List.length_append, nodesS_len, List.length_take]; omega) (hu.trans g1) ?_ (fun i hlt2 => ?_)
      · rw [List.length_append, List.length_map, List.length_range, Nat.succ_mul]
        omega
      · have lt : (g.take s).length = s := by rw [List.length_take]; omega
        rw [getD_app, lt]
        by_cases h3 : i < s
        · rw [if_pos h3, getD_take h3]
          have := g1.is _ _ _ _ (hi i hlt2)
          have e1 : i + 1 - 2 * s = i + 1 - s := by omega
          rw [e1]
          exact this.mono (by omega)
        · rw [if_neg h3, getD_nodes (by omega)]
          have := g2 (i - s) (by omega)
          have e1 : s + (i - s) = i := by omega
          rw [e1] at this
          exact this
    · rw [strideF, if_neg hlt]
      refine ⟨⟨hu, hg, fun i hlt2 => ?_⟩, Nat.le_trans hz (Nat.add_le_add_left (Nat.mul_le_mul_right _ ht) _)⟩
      have := hi i hlt2
      have e : i + 1 - s = 0 := by omega
      rw [e] at this
      exact this.mono (by omega)
theorem updown_laid {w : Nat} : ∀ (m : Nat) (so : List Nat) (st : Ps) (f l : Nat → Nat) (d : Nat), 1 ≤ so.length → so.length ≤ 2 ^ m → Row w st so f l d → Laid w st so.length f l (updownF w m so st) (d + 2 * m) := by
  intro m
  induction m with
  | zero =>
    intro so st f l d h1 h2 h
    have e : so.length = 1 := by have : so.length ≤ 1 := h2; omega
    refine ⟨Gr.refl _ _, rfl, fun i hi => ?_⟩
    have ei : i = 0 := by omega
    subst ei
    exact (h.is 0 (by omega)).mono (by omega)
  | succ m ih =>
    intro so st f l d h1 h2 h
    by_cases hlt : so.length < 2
    · rw [updownF, if_pos hlt]
      refine ⟨Gr.refl _ _, rfl, fun i hi => ?_⟩
      have ei : i = 0 := by omega
      subst ei
      exact (h.is 0 (by omega)).mono (by omega)
    · rw [updownF, if_neg hlt]
      have p2 : 2 ^ (m + 1) = 2 * 2 ^ m := by rw [Nat.pow_succ]; omega
      obtain ⟨g1, g2⟩ := adds0 (w := w) (st := st) (a := fun i => f (2 * i)) (b := fun i => l (2 * i + 1)) (d := d) ((List.range (so.length / 2)).map (upSt so)) (fun i p hp => by
        rw [List.getElem?_map] at hp
        cases e : (List.range (so.length / 2))[i]? with
        | none => rw [e] at hp; cases hp
        | some j =>
          rw [e] at hp
          obtain ⟨hj1, hj2⟩ := List.getElem?_eq_some_iff.mp e
          rw [List.length_range] at hj1
          rw [List.getElem_range] at hj2
          subst hj2
          have hp : upSt so i = p := Option.some.inj hp
          subst hp
          refine ⟨l (2 * i), h.is (2 * i) (by omega), ?_⟩
          rw [h.nx (2 * i) (by omega)]
          exact h.is (2 * i + 1) (by omega))
      rw [List.length_map, List.length_range] at g2
      generalize st ++ (List.range (so.length / 2)).map (upSt so) = u at *
      have S := ih (nodesS w st (so.length / 2)) u (fun i => f (2 * i)) (fun i => l (2 * i + 1)) (d + 1) (by rw [nodesS_len]; omega) (by rw [nodesS_len]; omega) ⟨fun i hi => by rw [nodesS_len] at hi; rw [getD_nodes hi]; exact g2 i hi, fun i hi => by rw [nodesS_len] at hi; exact h.nx (2 * i + 1) (by omega)⟩
      rw [nodesS_len] at S
      generalize updownF w m (nodesS w st (so.length / 2)) u = R at *
      unfold upEnd
      have z := fold_inv (upF w so R.1) (fun k p => p.1.length = 1 + k ∧ Gr w R.2 p.2 ∧ ∀ i, i < 1 + k → Is w p.2 (p.1.getD i 0) (f 0) (l i) (d + 1 + 2 * m + 1)) (List.range (so.length - 1)) (b0 := ([so.getD 0 0], R.2)) ⟨rfl, Gr.refl _ _, fun i hi => by
        have ei : i = 0 := by omega
        subst ei
        exact ((g1.trans S.gr).is _ _ _ _ (h.is 0 (by omega))).mono (by omega)⟩ (fun k j p ha ⟨q1, q2, q3⟩ => by
        obtain ⟨hk, hj⟩ := List.getElem?_eq_some_iff.mp ha
        rw [List.length_range] at hk
        rw [List.getElem_range] at hj
        subst hj
        unfold upF
        by_cases hodd : (1 + k) % 2 = 1
        · rw [if_pos hodd]
          refine ⟨by rw [List.length_append, q1]; rfl, q2, fun i hi => ?_⟩
          dsimp only
          rw [getD_snoc, q1]
          by_cases hlt2 : i < 1 + k
          · rw [if_pos hlt2]; exact q3 i hlt2
          · have ei : i = 1 + k := by omega
            rw [if_neg hlt2, if_pos ei]
            have := q2.is _ _ _ _ (S.is ((1 + k) / 2) (by omega))
            have e1 : 2 * ((1 + k) / 2) + 1 = i := by omega
            rw [e1] at this
            exact this.mono (by omega)
        · rw [if_neg hodd]
          have a1 := q2.is _ _ _ _ (S.is ((1 + k) / 2 - 1) (by omega))
          have a2 := q2.is _ _ _ _ ((g1.trans S.gr).is _ _ _ _ (h.is (1 + k) (by omega)))
          have e1 : 2 * ((1 + k) / 2 - 1) + 1 = k := by omega
          rw [e1] at a1
          have e2 := h.nx k (by omega)
          rw [Nat.add_comm 1 k] at a2 ⊢
          rw [← e2] at a2
          have nw := a1.new (a2.mono (show d ≤ d + 1 + 2 * m by omega))
          rw [Nat.add_comm 1 k] at a1 nw
          refine ⟨by rw [List.length_append, q1]; show 1 + k + 1 = _; omega, q2.trans (Gr.one a1.lt a2.lt), fun i hi => ?_⟩
          dsimp only
          rw [getD_snoc, q1]
          by_cases hlt2 : i < 1 + k
          · rw [if_pos hlt2]; exact (q3 i hlt2).old _
          · have ei : i = 1 + k := by omega
            rw [if_neg hlt2, if_pos ei]
            have e4 : i = k + 1 := by omega
            rw [e4]
            exact nw)
      rw [List.length_range] at z
      obtain ⟨z1, z2, z3⟩ := z
      have en : 1 + (so.length - 1) = so.length := by omega
      rw [en] at z1 z3
      exact ⟨(g1.trans S.gr).trans z2, z1, fun i hi => (z3 i hi).mono (by omega)⟩
/-! ### the known nets -/
theorem is_thing {w i : Nat} (h : i < w) : Is w [] i i i 0 := by
  refine ⟨by simpa using h, ?_, ?_⟩
  · show (spans0 w).getD i none = _
    rw [spans0, getD_mapR _ _ h]
  · show (List.replicate w 0).getD i 0 ≤ 0
    rw [List.getD_eq_getElem?_getD, List.getElem?_replicate, if_pos h]
    exact Nat.le_refl _
theorem row_things (w : Nat) : Row w [] (List.range w) (fun i => i) (fun i => i) 0 := by
  refine ⟨fun i hi => ?_, fun _ _ => rfl⟩
  rw [List.length_range] at hi
  have e : (List.range w).getD i 0 = i := by rw [List.getD_eq_getElem?_getD, List.getElem?_range hi]; rfl
  rw [e]
  exact is_thing hi
theorem known_laid {j w : Nat} (hj : j < 4) (h1 : 1 ≤ w) (h2 : w ≤ 64) : (∃ d, Laid w [] w (fun i => i) (fun i => i) (kn j w) d ∧ ∀ t, j = 1 ∨ j = 2 → w ≤ 2 ^ t → t ≤ 6 → Laid w [] w (fun i => i) (fun i => i) (kn j w) t) ∧ (kn j w).2.length ≤ 400 := by
  have lr : (List.range w).length = w := List.length_range
  match j, hj with
  | 0, _ =>
    have z := line_laid (row_things w)
    rw [lr] at z
    refine ⟨⟨_, z, fun t ht => by omega⟩, ?_⟩
    have := fold_inv (linF w) (fun k p => p.2.length ≤ k) (List.range w) (b0 := ([], [])) (Nat.le_refl _) (fun i a b _ hb => by have := (linF_len w b a).2; omega)
    rw [lr] at this
    show (lineF w (List.range w) []).2.length ≤ 400
    unfold lineF
    omega
  | 1, _ =>
    have z : ∀ t, w ≤ 2 ^ t → Laid w [] w (fun i => i) (fun i => i) (kn 1 w) t := fun t ht => by
      have := halves_laid 6 (List.range w) [] (fun i => i) (fun i => i) 0 t (by rw [lr]; exact h1) (by rw [lr]; exact h2) (by rw [lr]; exact ht) (row_things w)
      rw [lr, Nat.zero_add] at this
      exact this
    refine ⟨⟨6, z 6 h2, fun t _ ht _ => z t ht⟩, ?_⟩
    have := (halves_len w 6 (List.range w) []).2
    rw [lr] at this
    show (halvesF w 6 (List.range w) []).2.length ≤ 400
    have e : ([] : Ps).length = 0 := rfl
    omega
  | 2, _ =>
    have z : ∀ t, w ≤ 2 ^ t → Laid w [] w (fun i => i) (fun i => i) (kn 2 w) t ∧ (kn 2 w).2.length ≤ 0 + t * w := fun t ht => by
      have := stride_laid (w := w) (st := []) (n := w) (f := fun i => i) (l := fun i => i) (d := 0) (T := t) ht (fun _ _ => rfl) w 1 0 (List.range w) [] (by omega) rfl (Nat.zero_le _) lr (Gr.refl _ _) (Nat.zero_le _) (fun i hi => (row_things w).is i (by rw [lr]; exact hi))
      rw [Nat.zero_add] at this
      exact this
    refine ⟨⟨6, (z 6 h2).1, fun t _ ht _ => (z t ht).1⟩, ?_⟩
    have := (z 6 h2).2
    omega
  | 3, _ =>
    have z := updown_laid 6 (List.range w) [] (fun i => i) (fun i => i) 0 (by rw [lr]; exact h1) (by rw [lr]; exact h2) (row_things w)
    rw [lr] at z
    refine ⟨⟨_, z, fun t ht => by omega⟩, ?_⟩
    have := (updown_len w 6 (List.range w) []).2
    rw [lr] at this
    show (updownF w 6 (List.range w) []).2.length ≤ 400
    have e : ([] : Ps).length = 0 := rfl
    omega
theorem known_good {j w : Nat} (hj : j < 4) (h1 : 1 ≤ w) (h2 : w ≤ 64) : (knownN j w).good ∧ (knownN j w).steps.length ≤ 400 := by
  obtain ⟨⟨d, L, _⟩, hl⟩ := known_laid hj h1 h2
  refine ⟨⟨h1, h2, by show (kn j w).2.length ≤ 500; omega, L.ln, L.gr.ok fun k p e => by simp at e, fun o ho => ?_⟩, hl⟩
  obtain ⟨i, hi, e⟩ := List.getElem_of_mem ho
  have := (L.is i (by rw [← L.ln]; exact hi)).lt
  have e2 : (kn j w).1.getD i 0 = o := get_getD (List.getElem?_eq_some_iff.mpr ⟨hi, e⟩)
  rw [e2] at this
  exact this
theorem known_right {j w : Nat} (hj : j < 4) (h1 : 1 ≤ w) (h2 : w ≤ 64) : wrongN (knownN j w) "any" = none := by
  obtain ⟨⟨d, L, _⟩, hl⟩ := known_laid hj h1 h2
  refine find_no fun k hk => ?_
  have := (L.is k hk).sp
  unfold badOut
  have e1 : (knownN j w).spans.getD ((knownN j w).outs.getD k 0) none = some (0, k) := this
  rw [e1]
  have n1 : decide (("any" : Str) = "commuting") = false := by decide
  have n2 : decide (("any" : Str) = "greatest") = false := by decide
  simp [n1, n2]
end Sm

namespace Sm
open PySem L2 DL
theorem snoc_ind {α : Type} {P : List α → Prop} (h0 : P []) (hs : ∀ l p, P l → P (l ++ [p])) (l : List α) : P l := by
  have h : ∀ m : List α, P m.reverse := fun m => by
    induction m with
    | nil => exact h0
    | cons a m ih => rw [List.reverse_cons]; exact hs _ _ ih
  have := h l.reverse
  rwa [List.reverse_reverse] at this
theorem okS.cut {w : Nat} {st : Ps} {p : Nat × Nat} (h : okS w (st ++ [p])) : okS w st ∧ p.1 < w + st.length ∧ p.2 < w + st.length := by
  refine ⟨fun k q hq => h k q ?_, h st.length p ?_⟩
  · rw [List.getElem?_append_left (List.getElem?_eq_some_iff.mp hq).1]; exact hq
  · rw [List.getElem?_append_right (Nat.le_refl _), Nat.sub_self]; rfl
theorem joinS_some {x y : Option (Nat × Nat)} {a b : Nat} (h : joinS x y = some (a, b)) : ∃ c, x = some (a, c) ∧ y = some (c + 1, b) := by
  cases x with
  | none => cases h
  | some p =>
    cases y with
    | none => cases h
    | some q =>
      have h : (if p.2 + 1 = q.1 then some (p.1, q.2) else none) = some (a, b) := h
      by_cases e : p.2 + 1 = q.1
      · rw [if_pos e] at h
        obtain ⟨p1, p2⟩ := p
        obtain ⟨q1, q2⟩ := q
        simp at h e
        obtain ⟨rfl, rfl⟩ := h
        exact ⟨p2, rfl, by rw [e]⟩
      · rw [if_neg e] at h; cases h
theorem span_thing {w x : Nat} (h : x < w) : spanAt w [] x = some (x, x) := (is_thing h).sp
theorem new_or {w x : Nat} {st : Ps} {p : Nat × Nat} (h : x < w + (st ++ [p]).length) : x < w + st.length ∨ x = w + st.length := by
  rw [List.length_append] at h
  have h : x < w + (st.length + 1) := h
  omega
/-- a stretch is no longer than its depth lets it be -/
theorem span_pow (w : Nat) (st : Ps) : okS w st → ∀ x a b, x < w + st.length → spanAt w st x = some (a, b) → a ≤ b ∧ b < w ∧ b + 1 ≤ a + 2 ^ depAt w st x := by
  refine snoc_ind (P := fun st => okS w st → ∀ x a b, x < w + st.length → spanAt w st x = some (a, b) → a ≤ b ∧ b < w ∧ b + 1 ≤ a + 2 ^ depAt w st x) ?_ ?_ st
  · intro _ x a b hx h
    have hx : x < w := by simpa using hx
    rw [span_thing hx] at h
    simp at h
    obtain ⟨rfl, rfl⟩ := h
    have : 1 ≤ 2 ^ depAt w [] x := Nat.one_le_two_pow
    omega
  · intro st p ih hok x a b hx h
    obtain ⟨k1, k2, k3⟩ := hok.cut
    rcases new_or hx with hx | hx
    · rw [span_old hx] at h
      rw [dep_old hx]
      exact ih k1 x a b hx h
    · subst hx
      rw [span_new] at h
      rw [dep_new]
      obtain ⟨c, e1, e2⟩ := joinS_some h
      obtain ⟨a1, a2, a3⟩ := ih k1 _ _ _ k2 e1
      obtain ⟨b1, b2, b3⟩ := ih k1 _ _ _ k3 e2
      have m1 : 2 ^ depAt w st p.1 ≤ 2 ^ max (depAt w st p.1) (depAt w st p.2) := Nat.pow_le_pow_right (by decide) (by omega)
      have m2 : 2 ^ depAt w st p.2 ≤ 2 ^ max (depAt w st p.1) (depAt w st p.2) := Nat.pow_le_pow_right (by decide) (by omega)
      rw [Nat.add_comm 1, Nat.pow_succ]
      omega
/-- a step is the stretch q -/
def TS (w : Nat) (st : Ps) (q : Nat × Nat) : Prop := ∃ k, k < st.length ∧ spanAt w st (w + k) = some q
theorem TS.old {w : Nat} {st : Ps} {q : Nat × Nat} (h : TS w st q) (p : Nat × Nat) : TS w (st ++ [p]) q := by
  obtain ⟨k, h1, h2⟩ := h
  exact ⟨k, by rw [List.length_append]; omega, by rw [span_old (by omega)]; exact h2⟩
theorem nd_two {α : Type} {l m : List α} (h1 : l.Nodup) (h2 : m.Nodup) (h : ∀ x ∈ l, x ∉ m) : (l ++ m).Nodup := by
  rw [List.nodup_append]
  exact ⟨h1, h2, fun a ha b hb e => h a ha (by rw [e]; exact hb)⟩
theorem snir (w : Nat) (st : Ps) : okS w st → ∀ x a b, x < w + st.length → spanAt w st x = some (a, b) →
    (∃ L : List (Nat × Nat), L.Nodup ∧ (∀ q ∈ L, a ≤ q.1 ∧ q.1 < q.2 ∧ q.2 ≤ b ∧ TS w st q) ∧ b ≤ a + L.length) ∧ ∃ L : List (Nat × Nat), L.Nodup ∧ (∀ q ∈ L, a < q.1 ∧ q.1 < q.2 ∧ q.2 ≤ b ∧ TS w st q) ∧ b ≤ a + L.length + depAt w st x := by
  refine snoc_ind (P := fun st => okS w st → ∀ x a b, x < w + st.length → spanAt w st x = some (a, b) →
    (∃ L : List (Nat × Nat), L.Nodup ∧ (∀ q ∈ L, a ≤ q.1 ∧ q.1 < q.2 ∧ q.2 ≤ b ∧ TS w st q) ∧ b ≤ a + L.length) ∧ ∃ L : List (Nat × Nat), L.Nodup ∧ (∀ q ∈ L, a < q.1 ∧ q.1 < q.2 ∧ q.2 ≤ b ∧ TS w st q) ∧ b ≤ a + L.length + depAt w st x) ?_ ?_ st
  · intro _ x a b hx h
    have hx : x < w := by simpa using hx
    rw [span_thing hx] at h
    simp at h
    obtain ⟨rfl, rfl⟩ := h
    exact ⟨⟨[], List.nodup_nil, fun _ z => (nomatch z), Nat.le_add_right _ _⟩, ⟨[], List.nodup_nil, fun _ z => (nomatch z), by show x ≤ x + 0 + _; omega⟩⟩
  · intro st p ih hok x a b hx h
    obtain ⟨k1, k2, k3⟩ := hok.cut
    have up : ∀ {P : Nat × Nat → Prop} {L : List (Nat × Nat)}, (∀ q ∈ L, P q ∧ TS w st q) → ∀ q ∈ L, P q ∧ TS w (st ++ [p]) q := fun h q hq => ⟨(h q hq).1, (h q hq).2.old p⟩
    rcases new_or hx with hx | hx
    · rw [span_old hx] at h
      rw [dep_old hx]
      obtain ⟨⟨L, l1, l2, l3⟩, M, m1, m2, m3⟩ := ih k1 x a b hx h
      exact ⟨⟨L, l1, fun q hq => ⟨(l2 q hq).1, (l2 q hq).2.1, (l2 q hq).2.2.1, (l2 q hq).2.2.2.old p⟩, l3⟩, M, m1, fun q hq => ⟨(m2 q hq).1, (m2 q hq).2.1, (m2 q hq).2.2.1, (m2 q hq).2.2.2.old p⟩, m3⟩
    · subst hx
      have hself : TS w (st ++ [p]) (a, b) := ⟨st.length, by rw [List.length_append]; exact Nat.lt_succ_self _, h⟩
      rw [span_new] at h
      rw [dep_new]
      obtain ⟨c, e1, e2⟩ := joinS_some h
      obtain ⟨a1, _, _⟩ := span_pow w st k1 _ _ _ k2 e1
      obtain ⟨b1, _, _⟩ := span_pow w st k1 _ _ _ k3 e2
      obtain ⟨⟨L, l1, l2, l3⟩, M, m1, m2, m3⟩ := ih k1 _ _ _ k2 e1
      obtain ⟨⟨L', l1', l2', l3'⟩, _⟩ := ih k1 _ _ _ k3 e2
      refine ⟨⟨(a, b) :: (L ++ L'), ?_, fun q hq => ?_, ?_⟩, M ++ L', ?_, fun q hq => ?_, ?_⟩
      · rw [List.nodup_cons]
        refine ⟨fun z => ?_, nd_two l1 l1' fun q h1 h2 => ?_⟩
        · rcases List.mem_append.mp z with z | z
          · have := l2 _ z; dsimp only at this; omega
          · have := l2' _ z; dsimp only at this; omega
        · have := l2 q h1; have := l2' q h2; omega
      · rcases List.mem_cons.mp hq with rfl | hq
        · exact ⟨Nat.le_refl _, by dsimp only; omega, Nat.le_refl _, hself⟩
        · rcases List.mem_append.mp hq with hq | hq
          · obtain ⟨z1, z2, z3, z4⟩ := l2 q hq
            exact ⟨z1, z2, by omega, z4.old p⟩
          · obtain ⟨z1, z2, z3, z4⟩ := l2' q hq
            exact ⟨by omega, z2, z3, z4.old p⟩
      · rw [List.length_cons, List.length_append]; omega
      · refine nd_two m1 l1' fun q h1 h2 => ?_
        have := m2 q h1; have := l2' q h2; omega
      · rcases List.mem_append.mp hq with hq | hq
        · obtain ⟨z1, z2, z3, z4⟩ := m2 q hq
          exact ⟨z1, z2, by omega, z4.old p⟩
        · obtain ⟨z1, z2, z3, z4⟩ := l2' q hq
          exact ⟨by omega, z2, z3, z4.old p⟩
      · rw [List.length_append]; omega
theorem nd_sub {α : Type} [DecidableEq α] : ∀ {L M : List α}, L.Nodup → (∀ x ∈ L, x ∈ M) → L.length ≤ M.length
  | [], _, _, _ => Nat.zero_le _
  | a :: L, M, h, hs => by
    rw [List.nodup_cons] at h
    have hm := hs a List.mem_cons_self
    have := nd_sub (L := L) (M := M.erase a) h.2 fun x hx => (List.mem_erase_of_ne (fun e => h.1 (by rw [← e]; exact hx))).mpr (hs x (List.mem_cons_of_mem _ hx))
    rw [List.length_erase_of_mem hm] at this
    have hp := List.length_pos_of_mem hm
    rw [List.length_cons]
    omega
theorem ts_count {w : Nat} {st : Ps} {L : List (Nat × Nat)} (h : L.Nodup) (hT : ∀ q ∈ L, TS w st q) : L.length ≤ st.length := by
  have h1 : (L.map some).Nodup := by
    rw [List.Nodup, List.pairwise_map]
    exact h.imp fun {a b} n e => n (Option.some.inj e)
  have := nd_sub (M := (List.range st.length).map fun k => spanAt w st (w + k)) h1 fun x hx => by
    obtain ⟨q, hq, rfl⟩ := List.mem_map.mp hx
    obtain ⟨k, h2, h3⟩ := hT q hq
    exact List.mem_map.mpr ⟨k, List.mem_range.mpr h2, h3⟩
  rwa [List.length_map, List.length_map, List.length_range] at this
theorem span_out {n : Nt} (hr : wrongN n "any" = none) {k : Nat} (hk : k < n.wide) : spanAt n.wide n.steps (n.outs.getD k 0) = some (0, k) := by
  have hb : badOut n "any" k = false := by
    cases q : badOut n "any" k with
    | false => rfl
    | true => exact absurd q (List.find?_eq_none.mp hr k (List.mem_range.mpr hk))
  unfold badOut at hb
  rw [Bool.or_eq_false_iff, decide_eq_true rfl, Bool.true_and] at hb
  exact bnot_decF hb.1
theorem old_thing {w : Nat} {x : Nat} (hx : x < w) : ∀ st : Ps, spanAt w st x = some (x, x) := by
  refine snoc_ind (span_thing hx) fun st p ih => ?_
  rw [span_old (by omega)]
  exact ih
/-- steps and depth of a right net -/
theorem balance {n : Nt} (hg : n.good) (hr : wrongN n "any" = none) : 2 * n.wide - 2 ≤ n.steps.length + n.depth ∧ n.wide - 1 ≤ n.steps.length ∧ n.wide ≤ 2 ^ n.depth := by
  have w1 := hg.w1
  have hlast : n.outs.getD (n.wide - 1) 0 ∈ n.outs := getD_mem 0 (by rw [hg.lo]; omega)
  have ho : ∀ k, k < n.wide → n.outs.getD k 0 < n.wide + n.steps.length := fun k hk => hg.os _ (getD_mem 0 (by rw [hg.lo]; exact hk))
  have hs := span_out hr (show n.wide - 1 < n.wide by omega)
  have hd : depAt n.wide n.steps (n.outs.getD (n.wide - 1) 0) ≤ n.depth := maxN_ge (List.mem_map.mpr ⟨_, hlast, rfl⟩)
  obtain ⟨_, M, m1, m2, m3⟩ := snir n.wide n.steps hg.st _ _ _ (ho _ (by omega)) hs
  have hp := (span_pow n.wide n.steps hg.st _ _ _ (ho _ (by omega)) hs).2.2
  have hpw : 2 ^ depAt n.wide n.steps (n.outs.getD (n.wide - 1) 0) ≤ 2 ^ n.depth := Nat.pow_le_pow_right (by decide) hd
  have pre : ∀ k, k + 1 < n.wide → TS n.wide n.steps (0, k + 1) := fun k hk => by
    have h1 := span_out hr hk
    have h2 := ho (k + 1) hk
    have h3 : n.wide ≤ n.outs.getD (k + 1) 0 := by
      rcases Nat.lt_or_ge (n.outs.getD (k + 1) 0) n.wide with z | z
      · rw [old_thing z] at h1
        simp at h1
        omega
      · exact z
    refine ⟨n.outs.getD (k + 1) 0 - n.wide, by omega, ?_⟩
    have e : n.wide + (n.outs.getD (k + 1) 0 - n.wide) = n.outs.getD (k + 1) 0 := by omega
    rw [e]
    exact h1
  have nd1 : ((List.range (n.wide - 1)).map fun k => (0, k + 1)).Nodup := by
    rw [List.Nodup, List.pairwise_map]
    exact List.nodup_range.imp fun {a b} h e => h (by simp at e; exact e)
  have mem1 : ∀ q ∈ ((List.range (n.wide - 1)).map fun k => (0, k + 1)), q.1 = 0 ∧ TS n.wide n.steps q := fun q hq => by
    obtain ⟨k, hk, rfl⟩ := List.mem_map.mp hq
    exact ⟨rfl, pre k (by have := List.mem_range.mp hk; omega)⟩
  have c1 := ts_count nd1 fun q hq => (mem1 q hq).2
  have c2 := ts_count (nd_two nd1 m1 fun q h1 h2 => by have := (mem1 q h1).1; have := (m2 q h2).1; omega) fun q hq => by
    rcases List.mem_append.mp hq with hq | hq
    · exact (mem1 q hq).2
    · exact (m2 q hq).2.2.2
  rw [List.length_map, List.length_range] at c1
  rw [List.length_append, List.length_map, List.length_range] at c2
  refine ⟨by omega, c1, by omega⟩
/-! ### the least depth -/
theorem ld_ok (w : Nat) : ∀ (m many found : Nat), many = 2 ^ found → w ≤ many + m → (found = 0 ∨ 2 ^ (found - 1) < w) → w ≤ 2 ^ ldF w m many found ∧ (ldF w m many found = 0 ∨ 2 ^ (ldF w m many found - 1) < w)
  | 0, many, found, h1, h2, h3 => ⟨by show w ≤ 2 ^ found; omega, h3⟩
  | m + 1, many, found, h1, h2, h3 => by
    unfold ldF
    by_cases h : many < w
    · rw [if_pos h]
      have : 1 ≤ many := by rw [h1]; exact Nat.one_le_two_pow
      exact ld_ok w m (2 * many) (found + 1) (by rw [Nat.pow_succ, h1]; omega) (by omega) (.inr (by show 2 ^ found < w; omega))
    · rw [if_neg h]
      exact ⟨by omega, h3⟩
theorem leastD_ok {w : Nat} (h : 1 ≤ w) : w ≤ 2 ^ leastD w ∧ ∀ d, w ≤ 2 ^ d → leastD w ≤ d := by
  obtain ⟨h1, h2⟩ := ld_ok w w 1 0 rfl (by omega) (.inl rfl)
  refine ⟨h1, fun d hd => ?_⟩
  rcases h2 with h2 | h2
  · show ldF w w 1 0 ≤ d; omega
  · rcases Nat.lt_or_ge d (leastD w) with z | z
    · have : 2 ^ d ≤ 2 ^ (leastD w - 1) := Nat.pow_le_pow_right (by decide) (by omega)
      have : 2 ^ (leastD w - 1) < w := h2
      omega
    · exact z
theorem known_depth {j w : Nat} (hj : j = 1 ∨ j = 2) (h1 : 1 ≤ w) (h2 : w ≤ 64) : (knownN j w).depth = leastD w := by
  have hj4 : j < 4 := by omega
  obtain ⟨⟨d, _, L⟩, _⟩ := known_laid hj4 h1 h2
  obtain ⟨e1, e2⟩ := leastD_ok h1
  have L := L (leastD w) hj e1 (e2 6 h2)
  have low := (balance (known_good hj4 h1 h2).1 (known_right hj4 h1 h2)).2.2
  have hne : (knownN j w).outs.map (fun o => (knownN j w).dep.getD o 0) ≠ [] := fun z => by
    have := congrArg List.length z
    rw [List.length_map] at this
    have e : (knownN j w).outs.length = w := L.ln
    rw [e] at this
    simp at this
    omega
  have hm := maxN_mem hne
  obtain ⟨o, ho, e⟩ := List.mem_map.mp hm
  obtain ⟨i, hi, e3⟩ := List.getElem_of_mem ho
  have := (L.is i (by rw [← L.ln]; exact hi)).dp
  have e4 : (kn j w).1.getD i 0 = o := get_getD (List.getElem?_eq_some_iff.mpr ⟨hi, e3⟩)
  rw [e4] at this
  have e5 : (knownN j w).depth = depAt w (kn j w).2 o := e.symm
  have := e2 _ low
  omega
end Sm

namespace Sm
open PySem L2 DL
def kids (n : Nt) (x : Nat) : List Nat := if x < n.wide then [] else [(n.steps.getD (x - n.wide) (0, 0)).1, (n.steps.getD (x - n.wide) (0, 0)).2]
theorem kids_lt {n : Nt} (h : n.good) {x y : Nat} (hx : x < n.wide + n.steps.length) (hy : y ∈ kids n x) : y < n.wide + n.steps.length := by
  unfold kids at hy
  split at hy
  · cases hy
  · rename_i hw
    have hk : x - n.wide < n.steps.length := by omega
    have e : n.steps[x - n.wide]? = some (n.steps.getD (x - n.wide) (0, 0)) := by rw [List.getD_eq_getElem?_getD, List.getElem?_eq_getElem hk]; rfl
    have := h.st _ _ e
    simp only [List.mem_cons, List.not_mem_nil, or_false] at hy
    omega
inductive Und (n : Nt) (r : Nat) : Nat → Prop
  | self : Und n r r
  | kid {x y : Nat} : Und n r x → y ∈ kids n x → Und n r y
theorem getD_set {α : Type} (l : List α) (i x : Nat) (a d : α) : (l.set i a).getD x d = if i = x ∧ x < l.length then a else l.getD x d := by
  rw [List.getD_eq_getElem?_getD, List.getD_eq_getElem?_getD, List.getElem?_set]
  by_cases h : i = x
  · subst h
    by_cases h2 : i < l.length
    · simp [h2]
    · simp [h2]
  · simp [h]
def On (l : List Bool) (x : Nat) : Prop := l.getD x false = true
theorem on_lt {l : List Bool} {x : Nat} (h : On l x) : x < l.length := by
  rcases Nat.lt_or_ge x l.length with h2 | h2
  · exact h2
  · unfold On at h
    rw [List.getD_eq_getElem?_getD, List.getElem?_eq_none h2] at h
    cases h
theorem on_setT (l : List Bool) (o x : Nat) : On (setT l o) x ↔ (o = x ∧ x < l.length) ∨ On l x := by
  unfold On setT
  rw [getD_set]
  split
  · rename_i h
    exact ⟨fun _ => .inl h, fun _ => rfl⟩
  · rename_i h
    exact ⟨.inr, fun z => z.elim (fun z => absurd z h) id⟩
theorem on_setTs (os : List Nat) : ∀ (l : List Bool) (x : Nat), On (os.foldl setT l) x ↔ (x ∈ os ∧ x < l.length) ∨ On l x := by
  induction os with
  | nil => intro l x; simp
  | cons o r ih =>
    intro l x
    rw [List.foldl_cons, ih, on_setT, setT, List.length_set, List.mem_cons]
    constructor
    · rintro (⟨h, h2⟩ | ⟨h, h2⟩ | h)
      · exact .inl ⟨.inr h, h2⟩
      · exact .inl ⟨.inl h.symm, h2⟩
      · exact .inr h
    · rintro (⟨h | h, h2⟩ | h)
      · exact .inr (.inl ⟨h.symm, h2⟩)
      · exact .inl ⟨h, h2⟩
      · exact .inr (.inr h)
theorem on_rep (m x : Nat) : ¬ On (List.replicate m false) x := fun h => by
  have h2 := on_lt h
  rw [List.length_replicate] at h2
  unfold On at h
  rw [List.getD_eq_getElem?_getD, List.getElem?_replicate, if_pos h2] at h
  cases h
theorem kids_at (n : Nt) (k : Nat) : kids n (n.wide + k) = [(n.steps.getD k (0, 0)).1, (n.steps.getD k (0, 0)).2] := by
  unfold kids
  rw [if_neg (by omega), Nat.add_sub_cancel_left]
theorem on_usF (n : Nt) (l : List Bool) (i x : Nat) : On (usF n l i) x ↔ (On l (n.wide + (n.steps.length - 1 - i)) ∧ x ∈ kids n (n.wide + (n.steps.length - 1 - i)) ∧ x < l.length) ∨ On l x := by
  unfold usF
  rw [kids_at]
  split
  · rename_i h
    rw [on_setTs]
    exact ⟨fun z => z.imp (fun z => ⟨h, z⟩) id, fun z => z.imp (fun z => z.2) id⟩
  · rename_i h
    exact ⟨.inr, fun z => z.elim (fun z => absurd z.1 h) id⟩
def usN (n : Nt) (i : Nat) : List Bool := (List.range i).foldl (usF n) n.us0
theorem usN_succ (n : Nt) (i : Nat) : usN n (i + 1) = usF n (usN n i) i := by
  unfold usN
  rw [List.range_succ, List.foldl_append]
  rfl
theorem usN_len (n : Nt) (i : Nat) : (usN n i).length = n.wide + n.steps.length := by unfold usN; rw [usFs_len, us0_len]
theorem usN_inv {n : Nt} (h : n.good) : ∀ i, i ≤ n.steps.length → (∀ x ∈ n.outs, On (usN n i) x) ∧ (∀ x, On (usN n i) x → ∃ o ∈ n.outs, Und n o x) ∧ ∀ k, n.steps.length - i ≤ k → k < n.steps.length → On (usN n i) (n.wide + k) → ∀ y ∈ kids n (n.wide + k), On (usN n i) y := by
  intro i
  induction i with
  | zero =>
    intro _
    refine ⟨fun x hx => ?_, fun x hx => ?_, fun k h1 h2 => absurd h2 (by omega)⟩
    · show On n.us0 x
      unfold Nt.us0
      rw [on_setTs, List.length_replicate]
      exact .inl ⟨hx, h.os x hx⟩
    · have hx : On n.us0 x := hx
      unfold Nt.us0 at hx
      rw [on_setTs] at hx
      rcases hx with hx | hx
      · exact ⟨x, hx.1, .self⟩
      · exact absurd hx (on_rep _ _)
  | succ i ih =>
    intro hi
    obtain ⟨h1, h2, h3⟩ := ih (by omega)
    rw [usN_succ]
    have hl := usN_len n i
    refine ⟨fun x hx => (on_usF ..).mpr (.inr (h1 x hx)), fun x hx => ?_, fun k hk1 hk2 hk y hy => ?_⟩
    · rcases (on_usF ..).mp hx with ⟨ha, hb, _⟩ | hx
      · obtain ⟨o, ho, u⟩ := h2 _ ha
        exact ⟨o, ho, u.kid hb⟩
      · exact h2 x hx
    · have back : On (usN n i) (n.wide + k) := by
        rcases (on_usF ..).mp hk with ⟨ha, hb, _⟩ | hx
        · rw [kids_at] at hb
          have hj : n.steps.length - 1 - i < n.steps.length := by omega
          have e : n.steps[n.steps.length - 1 - i]? = some (n.steps.getD (n.steps.length - 1 - i) (0, 0)) := by rw [List.getD_eq_getElem?_getD, List.getElem?_eq_getElem hj]; rfl
          have := h.st _ _ e
          simp only [List.mem_cons, List.not_mem_nil, or_false] at hb
          omega
        · exact hx
      have ylt : y < n.wide + n.steps.length := kids_lt h (by omega) hy
      by_cases e : k = n.steps.length - 1 - i
      · subst e
        exact (on_usF ..).mpr (.inl ⟨back, hy, by omega⟩)
      · exact (on_usF ..).mpr (.inr (h3 k (by omega) hk2 back y hy))
theorem used_iff {n : Nt} (h : n.good) (x : Nat) : On n.used x ↔ ∃ o ∈ n.outs, Und n o x := by
  obtain ⟨h1, h2, h3⟩ := usN_inv h n.steps.length (Nat.le_refl _)
  suffices key : ∀ o ∈ n.outs, ∀ x, Und n o x → On n.used x from ⟨h2 x, fun ⟨o, ho, u⟩ => key o ho x u⟩
  intro o ho x u
  induction u with
  | self => exact h1 o ho
  | @kid x y _ hy ih =>
    have hx : x < n.wide + n.steps.length := by have := on_lt ih; rwa [Nt.used_len] at this
    have hw : ¬ x < n.wide := fun z => by
      unfold kids at hy
      rw [if_pos z] at hy
      cases hy
    have e : x = n.wide + (x - n.wide) := by omega
    rw [e] at ih hy
    exact h3 (x - n.wide) (by omega) (by omega) ih y hy
end Sm

namespace Sm
open PySem L2 DL
/-! what a net's nodes come to, by any operation -/
section
variable {α : Type} {op : α → α → α} {d : α} {leaf : Nat → α} {w : Nat}
def evF (op : α → α → α) (d : α) (l : List α) (p : Nat × Nat) : List α := l ++ [op (l.getD p.1 d) (l.getD p.2 d)]
def evL (op : α → α → α) (d : α) (leaf : Nat → α) (w : Nat) (st : Ps) : List α := st.foldl (evF op d) ((List.range w).map leaf)
theorem evL_snoc (st : Ps) (p : Nat × Nat) : evL op d leaf w (st ++ [p]) = evF op d (evL op d leaf w st) p := by
  unfold evL
  rw [List.foldl_append]
  rfl
theorem evL_len (st : Ps) : (evL op d leaf w st).length = w + st.length := by
  refine snoc_ind (P := fun st => (evL op d leaf w st).length = w + st.length) ?_ ?_ st
  · show ((List.range w).map leaf).length = _
    rw [List.length_map, List.length_range]
    rfl
  · intro l p ih
    rw [evL_snoc, evF, List.length_append, ih, List.length_append]
    rfl
theorem ev_old {st : Ps} {p : Nat × Nat} {x : Nat} (h : x < w + st.length) : (evL op d leaf w (st ++ [p])).getD x d = (evL op d leaf w st).getD x d := by
  rw [evL_snoc, evF, getD_snoc, evL_len, if_pos h]
theorem ev_new (st : Ps) (p : Nat × Nat) : (evL op d leaf w (st ++ [p])).getD (w + st.length) d = op ((evL op d leaf w st).getD p.1 d) ((evL op d leaf w st).getD p.2 d) := by
  rw [evL_snoc, evF, getD_snoc, evL_len, if_neg (Nat.lt_irrefl _), if_pos rfl]
theorem ev_leaf {x : Nat} (h : x < w) (st : Ps) : (evL op d leaf w st).getD x d = leaf x := by
  refine snoc_ind (P := fun st => (evL op d leaf w st).getD x d = leaf x) ?_ ?_ st
  · show ((List.range w).map leaf).getD x d = _
    rw [getD_mapR _ _ h]
  · intro l p ih
    rw [ev_old (by omega)]
    exact ih
theorem ev_step {st : Ps} : okS w st → ∀ (j : Nat) (p : Nat × Nat), st[j]? = some p → (evL op d leaf w st).getD (w + j) d = op ((evL op d leaf w st).getD p.1 d) ((evL op d leaf w st).getD p.2 d) := by
  refine snoc_ind (P := fun st => okS w st → ∀ (j : Nat) (p : Nat × Nat), st[j]? = some p → (evL op d leaf w st).getD (w + j) d = op ((evL op d leaf w st).getD p.1 d) ((evL op d leaf w st).getD p.2 d)) ?_ ?_ st
  · intro _ j p h
    simp at h
  · intro st q ih hok j p h
    obtain ⟨k1, k2, k3⟩ := hok.cut
    by_cases hj : j < st.length
    · rw [List.getElem?_append_left hj] at h
      have := k1 j p h
      rw [ev_old (by omega), ev_old (by omega), ev_old (by omega)]
      exact ih k1 j p h
    · rw [List.getElem?_append_right (by omega)] at h
      cases e : j - st.length with
      | zero =>
        rw [e] at h
        have h : q = p := Option.some.inj h
        subst h
        have ej : j = st.length := by omega
        subst ej
        rw [ev_new, ev_old k2, ev_old k3]
      | succ i => rw [e] at h; cases h
end
/-! ### pruned -/
def reN (names : List Nat) (p : Nat × Nat) : Nat × Nat := (names.getD p.1 0, names.getD p.2 0)
def prF (n : Nt) (U : List Bool) (q : List Nat × Ps) (k : Nat) : List Nat × Ps :=
  if U.getD (n.wide + k) false = false then (q.1 ++ [0], q.2)
  else if reN q.1 (n.steps.getD k (0, 0)) ∈ q.2 then (q.1 ++ [n.wide + q.2.idxOf (reN q.1 (n.steps.getD k (0, 0)))], q.2)
  else (q.1 ++ [n.wide + q.2.length], q.2 ++ [reN q.1 (n.steps.getD k (0, 0))])
def prAll (n : Nt) (U : List Bool) : List Nat × Ps := (List.range n.steps.length).foldl (prF n U) (List.range n.wide, [])
def Nt.prunedN (n : Nt) : Nt := ⟨n.wide, (prAll n n.used).2, n.outs.map fun o => (prAll n n.used).1.getD o 0⟩
/-- the names so far, the steps so far, of the first k steps -/
structure PrOk (n : Nt) (U : List Bool) (k : Nat) (q : List Nat × Ps) : Prop where
  ln : q.1.length = n.wide + k
  lt : ∀ x, x < n.wide + k → q.1.getD x 0 < n.wide + q.2.length
  ok : okS n.wide q.2
  few : q.2.length ≤ k
  ev : ∀ {α : Type} (op : α → α → α) (d : α) (leaf : Nat → α) (x : Nat), x < n.wide + k → (n.wide ≤ x → U.getD x false = true) → (evL op d leaf n.wide q.2).getD (q.1.getD x 0) d = (evL op d leaf n.wide n.steps).getD x d
  nd : q.2.Nodup
theorem idx_at {l : Ps} {p : Nat × Nat} (h : p ∈ l) : l[l.idxOf p]? = some p := by
  have hl := List.idxOf_lt_length_of_mem h
  rw [List.getElem?_eq_getElem hl, List.getElem_idxOf hl]
theorem idx_first {p : Nat × Nat} : ∀ {l : Ps} {m : Nat} {y : Nat × Nat}, m < l.idxOf p → l[m]? = some y → y ≠ p
  | [], m, y, _, e => by simp at e
  | a :: l, m, y, h, e => by
    by_cases hap : a = p
    · subst hap
      simp at h
    · rw [List.idxOf_cons, beq_eq_false_iff_ne.mpr hap, cond_false] at h
      cases m with
      | zero =>
        have e : a = y := by simpa using e
        rw [← e]
        exact hap
      | succ m => exact idx_first (l := l) (m := m) (by omega) (by simpa using e)
theorem pr_start (n : Nt) (U : List Bool) : PrOk n U 0 (List.range n.wide, []) := by
  have e : ∀ x, x < n.wide → (List.range n.wide).getD x 0 = x := fun x hx => by rw [List.getD_eq_getElem?_getD, List.getElem?_range hx]; rfl
  refine ⟨List.length_range, fun x hx => by dsimp only; rw [e x hx]; exact Nat.lt_of_lt_of_le hx (Nat.le_add_right _ _), fun k p h => by simp at h, Nat.le_refl _, fun op d leaf x hx _ => ?_, List.nodup_nil⟩
  have hx : x < n.wide := hx
  dsimp only
  rw [e x hx, ev_leaf hx, ev_leaf hx]
theorem pr_step {n : Nt} (hg : n.good) {U : List Bool} (hU : ∀ (k : Nat) (p : Nat × Nat), n.steps[k]? = some p → U.getD (n.wide + k) false = true → (n.wide ≤ p.1 → U.getD p.1 false = true) ∧ (n.wide ≤ p.2 → U.getD p.2 false = true)) {k : Nat} (hk : k < n.steps.length) {q : List Nat × Ps} (h : PrOk n U k q) : PrOk n U (k + 1) (prF n U q k) := by
  have w1 := hg.w1
  have hp : n.steps[k]? = some (n.steps.getD k (0, 0)) := by rw [List.getD_eq_getElem?_getD, List.getElem?_eq_getElem hk]; rfl
  generalize n.steps.getD k (0, 0) = p at *
  obtain ⟨p1, p2⟩ := hg.st k p hp
  have eP : n.steps.getD k (0, 0) = p := get_getD hp
  have new : ∀ (nm : Nat), nm < n.wide + q.2.length → (∀ {α : Type} (op : α → α → α) (d : α) (leaf : Nat → α), U.getD (n.wide + k) false = true → (evL op d leaf n.wide q.2).getD nm d = (evL op d leaf n.wide n.steps).getD (n.wide + k) d) → PrOk n U (k + 1) (q.1 ++ [nm], q.2) := fun nm h1 h2 => by
    refine ⟨by rw [List.length_append, h.ln]; rfl, fun x hx => ?_, h.ok, Nat.le_succ_of_le h.few, fun op d leaf x hx hu => ?_, h.nd⟩
    · dsimp only
      rw [getD_snoc, h.ln]
      by_cases hlt : x < n.wide + k
      · rw [if_pos hlt]; exact h.lt x hlt
      · rw [if_neg hlt, if_pos (by omega)]; exact h1
    · dsimp only
      rw [getD_snoc, h.ln]
      by_cases hlt : x < n.wide + k
      · rw [if_pos hlt]; exact h.ev op d leaf x hlt hu
      · have ex : x = n.wide + k := by omega
        subst ex
        rw [if_neg hlt, if_pos rfl]
        exact h2 op d leaf (hu (Nat.le_add_right _ _))
  unfold prF
  rw [eP]
  by_cases hu : U.getD (n.wide + k) false = false
  · rw [if_pos hu]
    exact new 0 (by omega) fun op d leaf z => by rw [hu] at z; cases z
  rw [if_neg hu]
  have hu : U.getD (n.wide + k) false = true := by cases e : U.getD (n.wide + k) false with
    | false => exact absurd e hu
    | true => rfl
  obtain ⟨u1, u2⟩ := hU k p hp hu
  have val : ∀ {α : Type} (op : α → α → α) (d : α) (leaf : Nat → α), op ((evL op d leaf n.wide q.2).getD (q.1.getD p.1 0) d) ((evL op d leaf n.wide q.2).getD (q.1.getD p.2 0) d) = (evL op d leaf n.wide n.steps).getD (n.wide + k) d := fun op d leaf => by
    rw [ev_step hg.st k p hp, h.ev op d leaf p.1 p1 u1, h.ev op d leaf p.2 p2 u2]
  by_cases hm : reN q.1 p ∈ q.2
  · rw [if_pos hm]
    have hi := idx_at hm
    have hlt := (List.getElem?_eq_some_iff.mp hi).1
    refine new _ (by omega) fun op d leaf _ => ?_
    rw [ev_step h.ok _ _ hi]
    exact val op d leaf
  · rw [if_neg hm]
    have l1 := h.lt p.1 p1
    have l2 := h.lt p.2 p2
    refine ⟨by rw [List.length_append, h.ln]; rfl, fun x hx => ?_, h.ok.new l1 l2, by rw [List.length_append]; have := h.few; show _ + 1 ≤ _; omega, fun op d leaf x hx hux => ?_, nd_two h.nd (by simp) fun z hz hz2 => by rw [List.mem_singleton.mp hz2] at hz; exact hm hz⟩
    · dsimp only
      rw [getD_snoc, h.ln, List.length_append]
      by_cases hlt : x < n.wide + k
      · rw [if_pos hlt]; have := h.lt x hlt; omega
      · rw [if_neg hlt, if_pos (by omega)]; show _ < _ + (_ + 1); omega
    · dsimp only
      rw [getD_snoc, h.ln]
      by_cases hlt : x < n.wide + k
      · rw [if_pos hlt, ev_old (h.lt x hlt)]
        exact h.ev op d leaf x hlt hux
      · have ex : x = n.wide + k := by omega
        subst ex
        rw [if_neg hlt, if_pos rfl, ev_new]
        exact val op d leaf
theorem pr_all {n : Nt} (hg : n.good) {U : List Bool} (hU : ∀ (k : Nat) (p : Nat × Nat), n.steps[k]? = some p → U.getD (n.wide + k) false = true → (n.wide ≤ p.1 → U.getD p.1 false = true) ∧ (n.wide ≤ p.2 → U.getD p.2 false = true)) : PrOk n U n.steps.length (prAll n U) := by
  have z := fold_inv (prF n U) (fun k q => PrOk n U k q) (List.range n.steps.length) (pr_start n U) fun i a b ha hb => by
    obtain ⟨hk, hj⟩ := List.getElem?_eq_some_iff.mp ha
    rw [List.length_range] at hk
    rw [List.getElem_range] at hj
    subst hj
    exact pr_step hg hU hk hb
  rwa [List.length_range] at z
/-- what is used holds its nodes -/
theorem used_kids {n : Nt} (hg : n.good) (k : Nat) (p : Nat × Nat) (hp : n.steps[k]? = some p) (hu : n.used.getD (n.wide + k) false = true) : n.used.getD p.1 false = true ∧ n.used.getD p.2 false = true := by
  obtain ⟨o, ho, u⟩ := (used_iff hg (n.wide + k)).mp hu
  have e : n.steps.getD k (0, 0) = p := get_getD hp
  have hk := kids_at n k
  rw [e] at hk
  exact ⟨(used_iff hg p.1).mpr ⟨o, ho, .kid u (by rw [hk]; exact List.mem_cons_self)⟩, (used_iff hg p.2).mpr ⟨o, ho, .kid u (by rw [hk]; exact List.mem_cons_of_mem _ List.mem_cons_self)⟩⟩
theorem pr_ok {n : Nt} (hg : n.good) : PrOk n n.used n.steps.length (prAll n n.used) := pr_all hg fun k p hp hu => ⟨fun _ => (used_kids hg k p hp hu).1, fun _ => (used_kids hg k p hp hu).2⟩
theorem pruned_good {n : Nt} (hg : n.good) : n.prunedN.good := by
  have h := pr_ok hg
  have := hg.ls; have := h.few
  refine ⟨hg.w1, hg.w2, by show (prAll n n.used).2.length ≤ 500; omega, by show (n.outs.map _).length = _; rw [List.length_map]; exact hg.lo, h.ok, fun o ho => ?_⟩
  obtain ⟨x, hx, rfl⟩ := List.mem_map.mp ho
  exact h.lt x (hg.os x hx)
theorem pruned_ev {n : Nt} (hg : n.good) {α : Type} (op : α → α → α) (d : α) (leaf : Nat → α) {k : Nat} (hk : k < n.wide) : (evL op d leaf n.prunedN.wide n.prunedN.steps).getD (n.prunedN.outs.getD k 0) d = (evL op d leaf n.wide n.steps).getD (n.outs.getD k 0) d := by
  have h := pr_ok hg
  have hko : k < n.outs.length := by rw [hg.lo]; exact hk
  have ho := getD_mem 0 hko
  have e : n.prunedN.outs.getD k 0 = (prAll n n.used).1.getD (n.outs.getD k 0) 0 := getD_map (fun o => (prAll n n.used).1.getD o 0) (d := 0) (d0 := 0) hko
  rw [e]
  exact h.ev op d leaf _ (hg.os _ ho) fun _ => (used_iff hg _).mpr ⟨_, ho, .self⟩
theorem pruned_right {n : Nt} (hg : n.good) (hr : wrongN n "any" = none) : wrongN n.prunedN "any" = none := by
  refine find_no fun k hk => ?_
  have h1 : (evL joinS none (fun x => some (x, x)) n.wide n.steps).getD (n.outs.getD k 0) none = some (0, k) := span_out hr hk
  rw [← pruned_ev hg joinS none (fun x => some (x, x)) hk] at h1
  have e1 : n.prunedN.spans.getD (n.prunedN.outs.getD k 0) none = some (0, k) := h1
  unfold badOut
  rw [e1]
  have n1 : decide (("any" : Str) = "commuting") = false := by decide
  have n2 : decide (("any" : Str) = "greatest") = false := by decide
  simp [n1, n2]
end Sm

namespace Sm
open PySem L2 DL
def tri : Nat → Nat
  | 0 => 0
  | k + 1 => tri k + k
/-- a right net has few steps -/
theorem rightN_few {ns : List Int} {k : Nat} : (rightN ns k 6).steps.length ≤ 15 := by
  obtain ⟨w1, w2⟩ := rWide_le (ns := ns) (k := k) (most := 6) (by decide)
  have z := fold_inv (rStep ns k 6) (fun i s => i ≤ rWide ns k 6 → s.ok (rWide ns k 6) ∧ s.st.length ≤ tri i) (List.range (rWide ns k 6)) (b0 := ⟨[], []⟩) (fun _ => ⟨⟨(fun j p e => by simp at e), (fun q hq => nomatch hq), Nat.le_refl _⟩, Nat.le_refl _⟩) fun i a s ha hP hi => by
    obtain ⟨hk, hj⟩ := List.getElem?_eq_some_iff.mp ha
    rw [List.length_range] at hk
    rw [List.getElem_range] at hj
    subst hj
    obtain ⟨p1, p2⟩ := hP (by omega)
    obtain ⟨c1, _, _, c4⟩ := cutF_ok ns (k + 1) (rWide ns k 6) 6 0 i s (by omega) (Nat.zero_le _) hk p1
    refine ⟨c1, ?_⟩
    show (cutF ns (k + 1) (rWide ns k 6) 6 0 i s).2.st.length ≤ tri i + i
    omega
  rw [List.length_range] at z
  have h := (z (Nat.le_refl _)).2
  have t : ∀ m, m < 7 → tri m ≤ 15 := by decide
  have := t _ (show rWide ns k 6 < 7 by omega)
  show (rEnd ns k 6).st.length ≤ 15
  have e : (rEnd ns k 6).st.length ≤ tri (rWide ns k 6) := h
  omega
/-- for each node the things that it puts together -/
def wLeaf (t : Nat) : List Nat := [t]
def Nt.words (n : Nt) : List (List Nat) := evL (· ++ ·) [] wLeaf n.wide n.steps
def eW (l : List Nat) : D := .tup (l.map eN)
theorem inj_eW : Inj eW := inj_tup inj_eN
theorem nols_int : ∀ l : List Nat, D.nols (l.map eN) = true
  | [] => rfl
  | _ :: l => nols_int l
theorem nol_app (a b : List Nat) : D.nol (.tup (a.map eN ++ b.map eN)) = true := by
  rw [← List.map_append]
  exact nols_int _
theorem sh_eW (n : Nat) (l : List Nat) : Sh (n + 1) (eW l) := sh_tup fun x _ => sh_eN n x
end Sm

namespace Sm
open PySem L2 DL
/-! ### what must still follow -/
def tlI (w k : Nat) (t : List Nat) (one : Nat) : List Nat := t.set one (max (t.getD one 0) (t.getD (w + k) 0 + 1))
def tlF (n : Nt) (t : List Nat) (k : Nat) : List Nat := [(n.steps.getD k (0, 0)).1, (n.steps.getD k (0, 0)).2].foldl (tlI n.wide k) t
/-- the steps that are looked at behind the others first: number i is step m - 1 - i -/
def Nt.tailAt (n : Nt) : Nat → List Nat
  | 0 => List.replicate (n.wide + n.steps.length) 0
  | i + 1 => tlF n (n.tailAt i) (n.steps.length - 1 - i)
def Nt.tails (n : Nt) : List Nat := n.tailAt n.steps.length
theorem tlI_len (w k : Nat) (t : List Nat) (one : Nat) : (tlI w k t one).length = t.length := List.length_set
theorem tlF_len (n : Nt) (t : List Nat) (k : Nat) : (tlF n t k).length = t.length := by
  show (tlI _ _ (tlI _ _ t _) _).length = _
  rw [tlI_len, tlI_len]
theorem tailAt_len (n : Nt) : ∀ i, (n.tailAt i).length = n.wide + n.steps.length
  | 0 => List.length_replicate
  | i + 1 => by rw [Nt.tailAt, tlF_len, tailAt_len n i]
theorem tails_len (n : Nt) : n.tails.length = n.wide + n.steps.length := tailAt_len n _
def uses (n : Nt) (k x : Nat) : Prop := x = (n.steps.getD k (0, 0)).1 ∨ x = (n.steps.getD k (0, 0)).2
instance (n : Nt) (k x : Nat) : Decidable (uses n k x) := inferInstanceAs (Decidable (_ ∨ _))
/-- t tells of x how many steps must follow, of the steps from j on -/
structure FarOk (n : Nt) (t : List Nat) (j x : Nat) : Prop where
  ge : ∀ k, j ≤ k → k < n.steps.length → uses n k x → t.getD (n.wide + k) 0 + 1 ≤ t.getD x 0
  eq : t.getD x 0 = 0 ∨ ∃ k, j ≤ k ∧ k < n.steps.length ∧ uses n k x ∧ t.getD x 0 = t.getD (n.wide + k) 0 + 1
theorem getD_set_eq {α : Type} {l : List α} {i : Nat} (x d : α) (h : i < l.length) : (l.set i x).getD i d = x := by
  rw [List.getD_eq_getElem?_getD, List.getElem?_set_self h]; rfl
theorem getD_set_ne {α : Type} {l : List α} {i j : Nat} (x d : α) (h : i ≠ j) : (l.set i x).getD j d = l.getD j d := by
  rw [List.getD_eq_getElem?_getD, List.getElem?_set_ne h, List.getD_eq_getElem?_getD]
theorem tlF_at {n : Nt} (hg : n.good) {t : List Nat} (ht : t.length = n.wide + n.steps.length) {k : Nat} (hk : k < n.steps.length) (x : Nat) :
    (tlF n t k).getD x 0 = if uses n k x then max (t.getD x 0) (t.getD (n.wide + k) 0 + 1) else t.getD x 0 := by
  obtain ⟨p, ep⟩ : ∃ p, p = n.steps.getD k (0, 0) := ⟨_, rfl⟩
  have hp : n.steps[k]? = some p := by rw [ep, List.getD_eq_getElem?_getD, List.getElem?_eq_getElem hk]; rfl
  obtain ⟨p1, p2⟩ := hg.st k p hp
  have hu : uses n k x ↔ (x = p.1 ∨ x = p.2) := by rw [uses, ← ep]
  show (tlI n.wide k (tlI n.wide k t (n.steps.getD k (0, 0)).1) (n.steps.getD k (0, 0)).2).getD x 0 = _
  rw [← ep]
  unfold tlI
  obtain ⟨v, ev⟩ : ∃ v, v = t.getD (n.wide + k) 0 + 1 := ⟨_, rfl⟩
  have e2 : (t.set p.1 (max (t.getD p.1 0) (t.getD (n.wide + k) 0 + 1))).getD (n.wide + k) 0 + 1 = v := by rw [getD_set_ne _ _ (by omega), ev]
  rw [e2, ← ev]
  by_cases h2 : x = p.2
  · subst h2
    rw [getD_set_eq _ _ (by rw [List.length_set]; omega), if_pos (hu.mpr (.inr rfl))]
    by_cases h1 : p.1 = p.2
    · rw [h1, getD_set_eq _ _ (by omega)]; omega
    · rw [getD_set_ne _ _ h1]
  · rw [getD_set_ne _ _ (fun z => h2 z.symm)]
    by_cases h1 : x = p.1
    · subst h1
      rw [getD_set_eq _ _ (by omega), if_pos (hu.mpr (.inl rfl))]
    · rw [getD_set_ne _ _ (fun z => h1 z.symm), if_neg (fun z => (hu.mp z).elim h1 h2)]
theorem far_at {n : Nt} (hg : n.good) : ∀ i, i ≤ n.steps.length → ∀ x, FarOk n (n.tailAt i) (n.steps.length - i) x
  | 0, _, x => ⟨fun k h1 h2 => by omega, .inl (by
    show (List.replicate _ 0).getD x 0 = 0
    rw [List.getD_eq_getElem?_getD, List.getElem?_replicate]
    split <;> rfl)⟩
  | i + 1, hi, x => by
    obtain ⟨k, ek⟩ : ∃ k, k = n.steps.length - 1 - i := ⟨_, rfl⟩
    have hk : k < n.steps.length := by omega
    have e1 : n.steps.length - (i + 1) = k := by omega
    have e2 : n.steps.length - i = k + 1 := by omega
    have at_ := tlF_at hg (tailAt_len n i) hk
    have ih := far_at hg i (by omega)
    rw [e2] at ih
    rw [e1, Nt.tailAt, ← ek]
    have old : ∀ j, k ≤ j → j < n.steps.length → (tlF n (n.tailAt i) k).getD (n.wide + j) 0 = (n.tailAt i).getD (n.wide + j) 0 := fun j h1 h2 => by
      rw [at_, if_neg]
      obtain ⟨p, ep⟩ : ∃ p, p = n.steps.getD k (0, 0) := ⟨_, rfl⟩
      have hp : n.steps[k]? = some p := by rw [ep, List.getD_eq_getElem?_getD, List.getElem?_eq_getElem hk]; rfl
      obtain ⟨p1, p2⟩ := hg.st k p hp
      rw [uses, ← ep]
      omega
    refine ⟨fun j h1 h2 hu => ?_, ?_⟩
    · rw [old j h1 h2]
      by_cases e : j = k
      · subst e
        rw [at_, if_pos hu]
        omega
      · have := (ih x).ge j (by omega) h2 hu
        rw [at_]
        split <;> omega
    · rw [at_]
      by_cases hu : uses n k x
      · rw [if_pos hu]
        by_cases hm : (n.tailAt i).getD x 0 ≤ (n.tailAt i).getD (n.wide + k) 0 + 1
        · exact .inr ⟨k, Nat.le_refl _, hk, hu, by rw [old k (Nat.le_refl _) hk]; omega⟩
        · rcases (ih x).eq with h | ⟨j, h1, h2, h3, h4⟩
          · omega
          · exact .inr ⟨j, by omega, h2, h3, by rw [old j (by omega) h2]; omega⟩
      · rw [if_neg hu]
        rcases (ih x).eq with h | ⟨j, h1, h2, h3, h4⟩
        · exact .inl h
        · exact .inr ⟨j, by omega, h2, h3, by rw [old j (by omega) h2]; exact h4⟩
theorem far_ok {n : Nt} (hg : n.good) (x : Nat) : FarOk n n.tails 0 x := by
  have := far_at hg n.steps.length (Nat.le_refl _) x
  rwa [Nat.sub_self] at this
/-! ### choosing -/
section
variable (far : Nat → Nat)
def bestF (b k : Nat) : Nat := if far b < far k then k else b
def best (R : List Nat) : Nat := R.foldl (bestF far) (R.getD 0 0)
/-- the first j of those that are ready -/
def sel : Nat → List Nat → List Nat
  | 0, _ => []
  | _ + 1, [] => []
  | j + 1, x :: r => best far (x :: r) :: sel j ((x :: r).erase (best far (x :: r)))
/-- a goes ahead of b -/
def ahd (a b : Nat) : Prop := far b < far a ∨ (far a = far b ∧ a ≤ b)
variable {far}
theorem best_fold : ∀ (R : List Nat) (b : Nat), (∀ k ∈ R, b ≤ k) → R.Pairwise (· < ·) → (R.foldl (bestF far) b = b ∨ R.foldl (bestF far) b ∈ R) ∧ ahd far (R.foldl (bestF far) b) b ∧ ∀ k ∈ R, ahd far (R.foldl (bestF far) b) k
  | [], b, _, _ => ⟨.inl rfl, .inr ⟨rfl, Nat.le_refl _⟩, fun _ z => nomatch z⟩
  | x :: r, b, hb, hs => by
    obtain ⟨h1, h2⟩ := List.pairwise_cons.mp hs
    have hbx := hb x List.mem_cons_self
    rw [List.foldl_cons, bestF]
    by_cases h : far b < far x
    · rw [if_pos h]
      obtain ⟨i1, i2, i3⟩ := best_fold r x (fun k hk => Nat.le_of_lt (h1 k hk)) h2
      refine ⟨.inr (i1.elim (fun e => by rw [e]; exact List.mem_cons_self) fun z => List.mem_cons_of_mem _ z), ?_, fun k hk => ?_⟩
      · unfold ahd at *; omega
      · rcases List.mem_cons.mp hk with rfl | hk
        · exact i2
        · exact i3 k hk
    · rw [if_neg h]
      obtain ⟨i1, i2, i3⟩ := best_fold r b (fun k hk => hb k (List.mem_cons_of_mem _ hk)) h2
      refine ⟨i1.elim .inl fun z => .inr (List.mem_cons_of_mem _ z), i2, fun k hk => ?_⟩
      rcases List.mem_cons.mp hk with rfl | hk
      · unfold ahd at *; omega
      · exact i3 k hk
theorem best_mem {R : List Nat} (hs : R.Pairwise (· < ·)) (h : R ≠ []) : best far R ∈ R := by
  cases R with
  | nil => exact absurd rfl h
  | cons x r =>
    have hb : ∀ k ∈ x :: r, x ≤ k := fun k hk => by
      rcases List.mem_cons.mp hk with rfl | hk
      · exact Nat.le_refl _
      · exact Nat.le_of_lt ((List.pairwise_cons.mp hs).1 k hk)
    obtain ⟨i1, _, _⟩ := best_fold (far := far) (x :: r) x hb hs
    exact i1.elim (fun e => by show List.foldl _ x _ ∈ _; rw [e]; exact List.mem_cons_self) id
theorem best_ahd {R : List Nat} (hs : R.Pairwise (· < ·)) {k : Nat} (hk : k ∈ R) : ahd far (best far R) k := by
  cases R with
  | nil => exact nomatch hk
  | cons x r =>
    have hb : ∀ k ∈ x :: r, x ≤ k := fun k hk => by
      rcases List.mem_cons.mp hk with rfl | hk
      · exact Nat.le_refl _
      · exact Nat.le_of_lt ((List.pairwise_cons.mp hs).1 k hk)
    exact (best_fold (far := far) (x :: r) x hb hs).2.2 k hk
theorem erase_pw {R : List Nat} (hs : R.Pairwise (· < ·)) (x : Nat) : (R.erase x).Pairwise (· < ·) := hs.sublist List.erase_sublist
theorem sel_perm : ∀ (j : Nat) (R : List Nat), R.Pairwise (· < ·) → R.length ≤ j → (sel far j R).Perm R
  | 0, R, _, h => by rw [List.eq_nil_of_length_eq_zero (Nat.le_zero.mp h)]; exact .refl _
  | j + 1, [], _, _ => .refl _
  | j + 1, x :: r, hs, h => by
    have hm := best_mem (far := far) hs (by simp)
    have hl : ((x :: r).erase (best far (x :: r))).length ≤ j := by rw [List.length_erase_of_mem hm]; rw [List.length_cons] at h ⊢; omega
    exact ((sel_perm j _ (erase_pw hs _) hl).cons _).trans (List.perm_cons_erase hm).symm
theorem sel_sub : ∀ (j : Nat) (R : List Nat), R.Pairwise (· < ·) → ∀ k ∈ sel far j R, k ∈ R
  | 0, _, _, k, h => nomatch h
  | j + 1, [], _, k, h => nomatch h
  | j + 1, x :: r, hs, k, h => by
    rcases List.mem_cons.mp h with rfl | h
    · exact best_mem hs (by simp)
    · exact List.mem_of_mem_erase (sel_sub j _ (erase_pw hs _) k h)
theorem sel_pw : ∀ (j : Nat) (R : List Nat), R.Pairwise (· < ·) → (sel far j R).Pairwise (ahd far)
  | 0, _, _ => .nil
  | j + 1, [], _ => .nil
  | j + 1, x :: r, hs => .cons (fun k hk => best_ahd hs (List.mem_of_mem_erase (sel_sub j _ (erase_pw hs _) k hk))) (sel_pw j _ (erase_pw hs _))
theorem sel_take : ∀ (i j : Nat) (R : List Nat), (sel far j R).take i = sel far (min i j) R
  | 0, j, R => by rw [Nat.zero_min]; rfl
  | i + 1, 0, R => rfl
  | i + 1, j + 1, [] => by rw [show min (i + 1) (j + 1) = min i j + 1 by omega]; rfl
  | i + 1, j + 1, x :: r => by
    rw [show min (i + 1) (j + 1) = min i j + 1 by omega, sel, List.take_succ_cons, sel_take i j, sel]
theorem sel_nodup (j : Nat) {R : List Nat} (hs : R.Pairwise (· < ·)) : (sel far j R).Nodup := by
  have h1 : R.Nodup := hs.imp fun h => Nat.ne_of_lt h
  have h2 := (sel_perm (far := far) (max j R.length) R hs (by omega)).nodup_iff.mpr h1
  have h3 := sel_take (far := far) j (max j R.length) R
  rw [show min j (max j R.length) = j by omega] at h3
  rw [← h3]
  exact h2.sublist (List.take_sublist _ _)
theorem sel_len (j : Nat) {R : List Nat} (hs : R.Pairwise (· < ·)) : (sel far j R).length = min j R.length := by
  have h3 := sel_take (far := far) j (max j R.length) R
  rw [show min j (max j R.length) = j by omega] at h3
  rw [← h3, List.length_take, (sel_perm (far := far) (max j R.length) R hs (by omega)).length_eq]
theorem sel_nil (j : Nat) : sel far j [] = [] := by cases j <;> rfl
theorem sel_all (j : Nat) {R : List Nat} (hs : R.Pairwise (· < ·)) (h : R.length ≤ j) {k : Nat} (hk : k ∈ R) : k ∈ sel far j R := (sel_perm j R hs h).mem_iff.mpr hk
end
end Sm

namespace Sm
open PySem L2 DL
theorem perm_nd : ∀ {S T : List Nat}, S.Nodup → T.Nodup → (∀ x, x ∈ S ↔ x ∈ T) → S.Perm T
  | [], T, _, _, h => by
    cases T with
    | nil => exact .refl _
    | cons y r => exact nomatch (h y).mpr List.mem_cons_self
  | x :: s, T, hs, ht, h => by
    obtain ⟨h1, h2⟩ := List.nodup_cons.mp hs
    have hx := (h x).mp List.mem_cons_self
    refine ((perm_nd h2 (ht.erase x) fun y => ?_).cons x).trans (List.perm_cons_erase hx).symm
    rw [ht.mem_erase_iff]
    constructor
    · intro hy
      exact ⟨fun e => h1 (by rw [← e]; exact hy), (h y).mp (List.mem_cons_of_mem _ hy)⟩
    · rintro ⟨e, hy⟩
      rcases List.mem_cons.mp ((h y).mpr hy) with z | z
      · exact absurd z e
      · exact z
/-- some of the first m numbers, in order -/
def Sub (m : Nat) (L : List Nat) : Prop := L = (List.range m).filter fun k => decide (k ∈ L)
theorem Sub.of {m : Nat} {p : Nat → Bool} : Sub m ((List.range m).filter p) := by
  unfold Sub
  refine List.filter_congr fun k hk => ?_
  cases e : p k
  · exact (decide_eq_false fun z => by have := (List.mem_filter.mp z).2; rw [e] at this; cases this).symm
  · exact (decide_eq_true (List.mem_filter.mpr ⟨hk, e⟩)).symm
theorem Sub.filter {m : Nat} {L : List Nat} (h : Sub m L) (p : Nat → Bool) : Sub m (L.filter p) := by
  rw [h, List.filter_filter]
  exact Sub.of
theorem Sub.lt {m : Nat} {L : List Nat} (h : Sub m L) {k : Nat} (hk : k ∈ L) : k < m := by
  rw [h] at hk
  exact List.mem_range.mp (List.mem_filter.mp hk).1
theorem Sub.pw {m : Nat} {L : List Nat} (h : Sub m L) : L.Pairwise (· < ·) := by
  rw [h]
  exact List.pairwise_lt_range.sublist List.filter_sublist
theorem Sub.nd {m : Nat} {L : List Nat} (h : Sub m L) : L.Nodup := h.pw.imp fun z => Nat.ne_of_lt z
theorem Sub.range (m : Nat) : Sub m (List.range m) := by
  have := Sub.of (m := m) (p := fun _ => true)
  rwa [List.filter_eq_self.mpr fun _ _ => rfl] at this
theorem Sub.len {m : Nat} {L : List Nat} (h : Sub m L) : L.length ≤ m := by
  rw [h]
  exact Nat.le_trans (List.length_filter_le _ _) (by rw [List.length_range]; exact Nat.le_refl _)
def Nt.far (n : Nt) (k : Nat) : Nat := n.tails.getD (n.wide + k) 0
/-- node x is a step that is left -/
def waits (n : Nt) (L : List Nat) (x : Nat) : Bool := decide (n.wide ≤ x ∧ x - n.wide ∈ L)
def rdy (n : Nt) (L : List Nat) (k : Nat) : Bool := !(waits n L (n.steps.getD k (0, 0)).1 || waits n L (n.steps.getD k (0, 0)).2)
def rdyL (n : Nt) (L : List Nat) : List Nat := L.filter (rdy n L)
def chosen (n : Nt) (W : Nat) (L : List Nat) : List Nat := sel n.far W (rdyL n L)
def here (n : Nt) (W : Nat) (L : List Nat) : List Nat := (List.range n.steps.length).filter fun k => decide (k ∈ chosen n W L)
def next (n : Nt) (W : Nat) (L : List Nat) : List Nat := L.filter fun k => decide (k ∉ chosen n W L)
def roundsF (n : Nt) (W : Nat) : Nat → List Nat → List (List Nat)
  | 0, _ => []
  | _ + 1, [] => []
  | f + 1, x :: r => here n W (x :: r) :: roundsF n W f (next n W (x :: r))
def Nt.rounds (n : Nt) (W : Nat) : List (List Nat) := roundsF n W n.steps.length (List.range n.steps.length)
section
variable {n : Nt} {W : Nat} {L : List Nat}
theorem rdy_sub (h : Sub n.steps.length L) : Sub n.steps.length (rdyL n L) := h.filter _
theorem chosen_sub (h : Sub n.steps.length L) {k : Nat} (hk : k ∈ chosen n W L) : k ∈ L ∧ rdy n L k = true := List.mem_filter.mp (sel_sub W _ (rdy_sub h).pw k hk)
theorem chosen_nd (h : Sub n.steps.length L) : (chosen n W L).Nodup := sel_nodup W (rdy_sub h).pw
theorem next_sub (h : Sub n.steps.length L) : Sub n.steps.length (next n W L) := h.filter _
theorem here_perm (h : Sub n.steps.length L) : (here n W L).Perm (chosen n W L) := perm_nd (Sub.nd Sub.of) (chosen_nd h) fun x => by
  unfold here
  rw [List.mem_filter]
  constructor
  · rintro ⟨_, z⟩
    exact of_decide_eq_true z
  · intro z
    exact ⟨List.mem_range.mpr (h.lt (chosen_sub h z).1), decide_eq_true z⟩
theorem steps_at (hg : n.good) {k : Nat} (hk : k < n.steps.length) : (n.steps.getD k (0, 0)).1 < n.wide + k ∧ (n.steps.getD k (0, 0)).2 < n.wide + k := by
  refine hg.st k _ ?_
  rw [List.getD_eq_getElem?_getD, List.getElem?_eq_getElem hk]
  rfl
theorem rdy_ne (hg : n.good) (h : Sub n.steps.length L) (hL : L ≠ []) : rdyL n L ≠ [] := by
  cases L with
  | nil => exact absurd rfl hL
  | cons x r =>
    have hx : x < n.steps.length := h.lt List.mem_cons_self
    obtain ⟨p1, p2⟩ := steps_at hg hx
    have no : ∀ y, y < n.wide + x → waits n (x :: r) y = false := fun y hy => decide_eq_false fun ⟨z1, z2⟩ => by
      rcases List.mem_cons.mp z2 with e | z
      · omega
      · have := (List.pairwise_cons.mp h.pw).1 _ z
        omega
    intro e
    have : x ∈ rdyL n (x :: r) := List.mem_filter.mpr ⟨List.mem_cons_self, by rw [rdy, no _ p1, no _ p2]; rfl⟩
    rw [e] at this
    cases this
theorem split_len (h : Sub n.steps.length L) : L.length = (next n W L).length + (chosen n W L).length := by
  have h1 := List.length_eq_countP_add_countP (fun k => decide (k ∈ chosen n W L)) (l := L)
  rw [List.countP_eq_length_filter, List.countP_eq_length_filter] at h1
  have h2 : (L.filter fun k => decide (k ∈ chosen n W L)).Perm (chosen n W L) := perm_nd (h.filter _).nd (chosen_nd h) fun x => by
    rw [List.mem_filter]
    exact ⟨fun z => of_decide_eq_true z.2, fun z => ⟨(chosen_sub h z).1, decide_eq_true z⟩⟩
  rw [h2.length_eq] at h1
  have h3 : (next n W L) = L.filter fun a => decide ¬decide (a ∈ chosen n W L) = true := List.filter_congr fun k _ => by
    by_cases e : k ∈ chosen n W L
    · rw [decide_eq_false (fun z => z e), decide_eq_true e]; rfl
    · rw [decide_eq_true e, decide_eq_false e]; rfl
  rw [h3]
  omega
theorem chosen_len (h : Sub n.steps.length L) : (chosen n W L).length = min W (rdyL n L).length := sel_len W (rdy_sub h).pw
theorem next_lt (hg : n.good) (hW : 1 ≤ W) (h : Sub n.steps.length L) (hL : L ≠ []) : (next n W L).length < L.length := by
  have h1 := split_len (W := W) h
  have h2 := chosen_len (W := W) h
  have h3 := List.length_pos_iff.mpr (rdy_ne hg h hL)
  omega
theorem rounds_ceil (hg : n.good) (hW : 1 ≤ W) : ∀ (f : Nat) (L : List Nat), Sub n.steps.length L → L.length ≤ f → L.length ≤ W * (roundsF n W f L).length
  | 0, L, _, hf => by rw [Nat.le_zero.mp hf]; exact Nat.zero_le _
  | f + 1, [], _, _ => Nat.zero_le _
  | f + 1, x :: r, h, hf => by
    have h1 := split_len (W := W) h
    have h2 := chosen_len (W := W) h
    have h3 := next_lt hg hW h (by simp)
    have ih := rounds_ceil hg hW f (next n W (x :: r)) (next_sub h) (by omega)
    show (x :: r).length ≤ W * ((roundsF n W f (next n W (x :: r))).length + 1)
    rw [Nat.mul_succ]
    omega
def Nt.dp (n : Nt) (k : Nat) : Nat := n.dep.getD (n.wide + k) 0
theorem dep_ev (n : Nt) : n.dep = evL (fun a b => 1 + max a b) 0 (fun _ => 0) n.wide n.steps := by
  unfold Nt.dep evL
  rw [List.map_const', List.length_range]
  rfl
theorem dep_thing {x : Nat} (h : x < n.wide) : n.dep.getD x 0 = 0 := by rw [dep_ev, ev_leaf h]
theorem dp_step (hg : n.good) {k : Nat} (hk : k < n.steps.length) : n.dp k = 1 + max (n.dep.getD (n.steps.getD k (0, 0)).1 0) (n.dep.getD (n.steps.getD k (0, 0)).2 0) := by
  unfold Nt.dp
  rw [dep_ev]
  refine ev_step hg.st k _ ?_
  rw [List.getD_eq_getElem?_getD, List.getElem?_eq_getElem hk]
  rfl
/-- a node that is not left is no deeper than r -/
theorem dep_le {r : Nat} (hd : ∀ k, k < n.steps.length → k ∉ L → n.dp k ≤ r) {x : Nat} (hx : x < n.wide + n.steps.length) (hw : waits n L x = false) : n.dep.getD x 0 ≤ r := by
  by_cases h : x < n.wide
  · rw [dep_thing h]; exact Nat.zero_le _
  · have e : x = n.wide + (x - n.wide) := by omega
    have hw := of_decide_eq_false hw
    have := hd (x - n.wide) (by omega) (fun z => hw ⟨by omega, z⟩)
    rw [Nt.dp, ← e] at this
    exact this
theorem done_next (hg : n.good) (h : Sub n.steps.length L) {r : Nat} (hd : ∀ k, k < n.steps.length → k ∉ L → n.dp k ≤ r) : ∀ k, k < n.steps.length → k ∉ next n W L → n.dp k ≤ r + 1 := fun k hk hn => by
  by_cases hL : k ∈ L
  · have hc : k ∈ chosen n W L := by
      by_cases z : k ∈ chosen n W L
      · exact z
      · exact absurd (List.mem_filter.mpr ⟨hL, decide_eq_true z⟩) hn
    have hr := (chosen_sub h hc).2
    unfold rdy at hr
    rw [Bool.not_eq_true', Bool.or_eq_false_iff] at hr
    obtain ⟨p1, p2⟩ := steps_at hg hk
    have a1 := dep_le hd (by omega) hr.1
    have a2 := dep_le hd (by omega) hr.2
    rw [dp_step hg hk]
    omega
  · have := hd k hk hL
    omega
theorem rounds_deep (hg : n.good) (hW : 1 ≤ W) : ∀ (f : Nat) (L : List Nat) (r : Nat), Sub n.steps.length L → L.length ≤ f → (∀ k, k < n.steps.length → k ∉ L → n.dp k ≤ r) → ∀ k, k < n.steps.length → n.dp k ≤ r + (roundsF n W f L).length
  | 0, L, r, _, hf, hd, k, hk => hd k hk (by rw [List.eq_nil_of_length_eq_zero (Nat.le_zero.mp hf)]; exact fun z => nomatch z)
  | f + 1, [], r, _, _, hd, k, hk => hd k hk fun z => nomatch z
  | f + 1, x :: t, r, h, hf, hd, k, hk => by
    have h3 := next_lt hg hW h (by simp)
    have ih := rounds_deep hg hW f (next n W (x :: t)) (r + 1) (next_sub h) (by omega) (done_next hg h hd) k hk
    rw [roundsF, List.length_cons]
    omega
theorem rounds_one (hg : n.good) : ∀ (f : Nat) (L : List Nat), Sub n.steps.length L → L.length ≤ f → (roundsF n 1 f L).length = L.length
  | 0, L, _, hf => by rw [Nat.le_zero.mp hf]; rfl
  | f + 1, [], _, _ => rfl
  | f + 1, x :: r, h, hf => by
    have h1 := split_len (W := 1) h
    have h2 := chosen_len (W := 1) h
    have h4 := List.length_pos_iff.mpr (rdy_ne hg h (by simp))
    have ih := rounds_one hg f (next n 1 (x :: r)) (next_sub h) (by omega)
    rw [roundsF, List.length_cons, ih]
    omega
theorem rounds_many (hg : n.good) (hW : 1 ≤ W) (hm : n.steps.length ≤ W) {M : Nat} (hM : ∀ k, k < n.steps.length → n.dp k ≤ M) : ∀ (f : Nat) (L : List Nat) (r : Nat), Sub n.steps.length L → L.length ≤ f → r ≤ M → (∀ k ∈ L, r < n.dp k) → (roundsF n W f L).length + r ≤ M
  | 0, L, r, _, _, hr, _ => by show 0 + r ≤ M; omega
  | f + 1, [], r, _, _, hr, _ => by show 0 + r ≤ M; omega
  | f + 1, x :: t, r, h, hf, hr, hd => by
    have h3 := next_lt hg hW h (by simp)
    have hx := hd x List.mem_cons_self
    have hx2 := hM x (h.lt List.mem_cons_self)
    have ih := rounds_many hg hW hm hM f (next n W (x :: t)) (r + 1) (next_sub h) (by omega) (by omega) fun k hk => by
      obtain ⟨hk1, hk2⟩ := List.mem_filter.mp hk
      have hk2 := of_decide_eq_true hk2
      have hkm := h.lt hk1
      have nr : rdy n (x :: t) k = false := by
        cases e : rdy n (x :: t) k with
        | false => rfl
        | true => exact absurd (sel_all W (rdy_sub h).pw (by have := (rdy_sub h).len; omega) (List.mem_filter.mpr ⟨hk1, e⟩)) hk2
      unfold rdy at nr
      have nr : (waits n (x :: t) (n.steps.getD k (0, 0)).1 || waits n (x :: t) (n.steps.getD k (0, 0)).2) = true := by
        cases e : (waits n (x :: t) (n.steps.getD k (0, 0)).1 || waits n (x :: t) (n.steps.getD k (0, 0)).2) with
        | true => rfl
        | false => rw [e] at nr; cases nr
      have deep : ∀ y, waits n (x :: t) y = true → r < n.dep.getD y 0 := fun y hy => by
        obtain ⟨z1, z2⟩ := of_decide_eq_true hy
        have := hd _ z2
        have e : n.wide + (y - n.wide) = y := by omega
        rw [Nt.dp, e] at this
        exact this
      rw [dp_step hg hkm]
      rcases (Bool.or_eq_true _ _).mp nr with z | z
      · have := deep _ z; omega
      · have := deep _ z; omega
    rw [roundsF, List.length_cons]
    omega
end
/-- how many rounds at least -/
def fewN (m W : Nat) : Nat := (m + (W - 1)) / W
def Nt.leastR (n : Nt) (W : Nat) : Nat := max (fewN n.steps.length W) (maxN n.dep)
theorem fewN_le {m W c : Nat} (hW : 1 ≤ W) (h : m ≤ W * c) : fewN m W ≤ c := by
  unfold fewN
  have : (m + (W - 1)) / W < c + 1 := by
    rw [Nat.div_lt_iff_lt_mul (by omega), Nat.add_mul, Nat.mul_comm c W]
    omega
  omega
theorem fewN_ge {m W : Nat} (hW : 1 ≤ W) : m ≤ fewN m W * W := by
  unfold fewN
  have h1 := Nat.div_add_mod (m + (W - 1)) W
  have h2 := Nat.mod_lt (m + (W - 1)) (show W > 0 by omega)
  rw [Nat.mul_comm] at h1
  omega
theorem maxdep_le {n : Nt} {M : Nat} (h : ∀ k, k < n.steps.length → n.dp k ≤ M) : maxN n.dep ≤ M := by
  by_cases hn : n.dep = []
  · rw [hn]; exact Nat.zero_le _
  · have := maxN_mem hn
    obtain ⟨i, hi, e⟩ := List.getElem_of_mem this
    rw [n.dep_len] at hi
    have e2 : n.dep.getD i 0 = maxN n.dep := by rw [List.getD_eq_getElem?_getD, List.getElem?_eq_getElem (by rw [n.dep_len]; exact hi), e]; rfl
    rw [← e2]
    by_cases hw : i < n.wide
    · rw [dep_thing hw]; exact Nat.zero_le _
    · have := h (i - n.wide) (by omega)
      rw [Nt.dp, show n.wide + (i - n.wide) = i by omega] at this
      exact this
theorem dp_le_max {n : Nt} {k : Nat} (hk : k < n.steps.length) : n.dp k ≤ maxN n.dep := maxN_ge (getD_mem 0 (by rw [n.dep_len]; omega))
theorem rounds_least {n : Nt} (hg : n.good) {W : Nat} (hW : 1 ≤ W) : n.leastR W ≤ (n.rounds W).length := by
  have h1 := rounds_ceil hg hW n.steps.length (List.range n.steps.length) (Sub.range _) (by rw [List.length_range]; exact Nat.le_refl _)
  rw [List.length_range] at h1
  have h2 := rounds_deep hg hW n.steps.length (List.range n.steps.length) 0 (Sub.range _) (by rw [List.length_range]; exact Nat.le_refl _) (fun k hk z => absurd (List.mem_range.mpr hk) z)
  refine Nat.max_le.mpr ⟨fewN_le hW h1, maxdep_le fun k hk => ?_⟩
  have := h2 k hk
  rw [Nat.zero_add] at this
  exact this
theorem rounds_1 {n : Nt} (hg : n.good) : (n.rounds 1).length = n.leastR 1 := by
  refine Nat.le_antisymm ?_ (rounds_least hg (Nat.le_refl _))
  have h1 := rounds_one hg n.steps.length (List.range n.steps.length) (Sub.range _) (by rw [List.length_range]; exact Nat.le_refl _)
  rw [List.length_range] at h1
  rw [Nt.rounds, h1]
  have : fewN n.steps.length 1 = n.steps.length := by unfold fewN; rw [Nat.div_one]; rfl
  unfold Nt.leastR
  omega
theorem rounds_wide {n : Nt} (hg : n.good) {W : Nat} (hW : 1 ≤ W) (hm : n.steps.length ≤ W) : (n.rounds W).length = n.leastR W := by
  refine Nat.le_antisymm ?_ (rounds_least hg hW)
  have := rounds_many hg hW hm (M := maxN n.dep) (fun k hk => dp_le_max hk) n.steps.length (List.range n.steps.length) 0 (Sub.range _) (by rw [List.length_range]; exact Nat.le_refl _) (Nat.zero_le _) fun k hk => by
    rw [dp_step hg (List.mem_range.mp hk)]
    omega
  unfold Nt.leastR
  rw [Nt.rounds]
  omega
end Sm

namespace Sm
open PySem L2 DL
/-! words: what a node puts together, in order -/
def sumL {α : Type} (op : α → α → α) (d : α) : List α → α
  | [] => d
  | x :: r => r.foldl op x
section
variable {α : Type} {op : α → α → α} {d : α} {leaf : Nat → α} {w : Nat}
theorem fold_as (as : ∀ x y z, op (op x y) z = op x (op y z)) : ∀ (r : List α) (x y : α), r.foldl op (op x y) = op x (r.foldl op y)
  | [], _, _ => rfl
  | z :: r, x, y => by rw [List.foldl_cons, List.foldl_cons, as, fold_as as r]
theorem sumL_app (as : ∀ x y z, op (op x y) z = op x (op y z)) {a b : List α} (ha : a ≠ []) (hb : b ≠ []) : sumL op d (a ++ b) = op (sumL op d a) (sumL op d b) := by
  cases a with
  | nil => exact absurd rfl ha
  | cons x r =>
    cases b with
    | nil => exact absurd rfl hb
    | cons y t =>
      show (r ++ y :: t).foldl op x = op (r.foldl op x) (t.foldl op y)
      rw [List.foldl_append, List.foldl_cons, fold_as as]
abbrev wrd (w : Nat) (st : Ps) (x : Nat) : List Nat := (evL (· ++ ·) [] wLeaf w st).getD x []
theorem wrd_ne (st : Ps) : okS w st → ∀ x, x < w + st.length → wrd w st x ≠ [] := by
  refine snoc_ind (P := fun st => okS w st → ∀ x, x < w + st.length → wrd w st x ≠ []) ?_ ?_ st
  · intro _ x hx
    have hx : x < w := by simpa using hx
    rw [wrd, ev_leaf hx]
    exact fun z => nomatch z
  · intro st p ih hok x hx
    obtain ⟨k1, k2, k3⟩ := hok.cut
    rcases new_or hx with hx | hx
    · rw [wrd, ev_old hx]; exact ih k1 x hx
    · subst hx
      rw [wrd, ev_new]
      exact fun z => ih k1 _ k2 (List.append_eq_nil_iff.mp z).1
theorem ev_word (as : ∀ x y z, op (op x y) z = op x (op y z)) (st : Ps) : okS w st → ∀ x, x < w + st.length → (evL op d leaf w st).getD x d = sumL op d ((wrd w st x).map leaf) := by
  refine snoc_ind (P := fun st => okS w st → ∀ x, x < w + st.length → (evL op d leaf w st).getD x d = sumL op d ((wrd w st x).map leaf)) ?_ ?_ st
  · intro _ x hx
    have hx : x < w := by simpa using hx
    rw [wrd, ev_leaf hx, ev_leaf hx]
    rfl
  · intro st p ih hok x hx
    obtain ⟨k1, k2, k3⟩ := hok.cut
    rcases new_or hx with hx | hx
    · rw [wrd, ev_old hx, ev_old hx]; exact ih k1 x hx
    · subst hx
      rw [wrd, ev_new, ev_new, ih k1 _ k2, ih k1 _ k3, List.map_append, sumL_app as (fun z => wrd_ne st k1 _ k2 (List.map_eq_nil_iff.mp z)) (fun z => wrd_ne st k1 _ k3 (List.map_eq_nil_iff.mp z))]
theorem wrd_lt (st : Ps) : okS w st → ∀ x, x < w + st.length → ∀ t ∈ wrd w st x, t < w := by
  refine snoc_ind (P := fun st => okS w st → ∀ x, x < w + st.length → ∀ t ∈ wrd w st x, t < w) ?_ ?_ st
  · intro _ x hx t ht
    have hx : x < w := by simpa using hx
    rw [wrd, ev_leaf hx] at ht
    rw [List.mem_singleton.mp ht]; exact hx
  · intro st p ih hok x hx t ht
    obtain ⟨k1, k2, k3⟩ := hok.cut
    rcases new_or hx with hx | hx
    · rw [wrd, ev_old hx] at ht; exact ih k1 x hx t ht
    · subst hx
      rw [wrd, ev_new] at ht
      exact (List.mem_append.mp ht).elim (ih k1 _ k2 t) (ih k1 _ k3 t)
/-- how often a thing stands in a word -/
theorem wrd_count (st : Ps) : okS w st → ∀ x, x < w + st.length → ∀ t, t < w → ((evL (addR w) [] (unitN w) w st).getD x []).getD t 0 = (wrd w st x).count t := by
  refine snoc_ind (P := fun st => okS w st → ∀ x, x < w + st.length → ∀ t, t < w → ((evL (addR w) [] (unitN w) w st).getD x []).getD t 0 = (wrd w st x).count t) ?_ ?_ st
  · intro _ x hx t ht
    have hx : x < w := by simpa using hx
    rw [wrd, ev_leaf hx, ev_leaf hx, unitN, getD_mapR _ _ ht, wLeaf, List.count_singleton]
    by_cases e : t = x
    · rw [if_pos e, if_pos (by rw [e]; exact beq_self_eq_true _)]
    · rw [if_neg e, if_neg (by rw [beq_iff_eq]; exact fun z => e z.symm)]
  · intro st p ih hok x hx t ht
    obtain ⟨k1, k2, k3⟩ := hok.cut
    rcases new_or hx with hx | hx
    · rw [wrd, ev_old hx, ev_old hx]; exact ih k1 x hx t ht
    · subst hx
      rw [wrd, ev_new, ev_new, addR, getD_mapR _ _ ht, ih k1 _ k2 t ht, ih k1 _ k3 t ht, List.count_append]
end
end Sm

namespace Sm
open PySem L2 DL
section
variable {w : Nat}
def uptoL (a b : Nat) : List Nat := List.range' a (b + 1 - a)
/-- a node is the stretch a .. b just where its word is -/
theorem span_word (st : Ps) : okS w st → ∀ x a b, x < w + st.length → (spanAt w st x = some (a, b) ↔ a ≤ b ∧ wrd w st x = uptoL a b) := by
  refine snoc_ind (P := fun st => okS w st → ∀ x a b, x < w + st.length → (spanAt w st x = some (a, b) ↔ a ≤ b ∧ wrd w st x = uptoL a b)) ?_ ?_ st
  · intro _ x a b hx
    have hx : x < w := by simpa using hx
    rw [span_thing hx, wrd, ev_leaf hx, wLeaf, uptoL]
    constructor
    · intro h
      simp at h
      obtain ⟨rfl, rfl⟩ := h
      refine ⟨Nat.le_refl _, ?_⟩
      rw [show x + 1 - x = 1 by omega]
      rfl
    · rintro ⟨h1, h2⟩
      have hl := congrArg List.length h2
      rw [List.length_range'] at hl
      have e : b + 1 - a = 1 := hl.symm
      rw [e] at h2
      have e2 : x = a := by injection h2
      have e3 : b = a := by omega
      subst e3
      subst e2
      rfl
  · intro st p ih hok x a b hx
    obtain ⟨k1, k2, k3⟩ := hok.cut
    rcases new_or hx with hx | hx
    · rw [span_old hx, wrd, ev_old hx]; exact ih k1 x a b hx
    · subst hx
      rw [span_new, wrd, ev_new]
      constructor
      · intro h
        obtain ⟨c, e1, e2⟩ := joinS_some h
        obtain ⟨a1, a2⟩ := ((ih k1 _ a c k2).mp e1)
        obtain ⟨b1, b2⟩ := (ih k1 _ (c + 1) b k3).mp e2
        refine ⟨by omega, ?_⟩
        show wrd w st p.1 ++ wrd w st p.2 = _
        rw [a2, b2, uptoL, uptoL, uptoL]
        have e : c + 1 = a + (c + 1 - a) := by omega
        conv => lhs; rhs; rw [e]
        rw [List.range'_append_1]
        congr 1
        omega
      · rintro ⟨h1, h2⟩
        have h2 : wrd w st p.1 ++ wrd w st p.2 = List.range' a (b + 1 - a) := h2
        have n1 := List.length_pos_iff.mpr (wrd_ne st k1 _ k2)
        have n2 := List.length_pos_iff.mpr (wrd_ne st k1 _ k3)
        have hl := congrArg List.length h2
        rw [List.length_append, List.length_range'] at hl
        obtain ⟨m, em⟩ : ∃ m, m = (wrd w st p.1).length := ⟨_, rfl⟩
        have sp : List.range' a (b + 1 - a) = List.range' a m ++ List.range' (a + m) (b + 1 - a - m) := by
          rw [List.range'_append_1]
          congr 1
          omega
        rw [sp] at h2
        obtain ⟨t1, t2⟩ := List.append_inj h2 (by rw [List.length_range', em])
        have s1 := (ih k1 p.1 a (a + m - 1) k2).mpr ⟨by omega, by rw [t1, uptoL]; congr 1; omega⟩
        have s2 := (ih k1 p.2 (a + m) b k3).mpr ⟨by omega, by rw [t2, uptoL]; congr 1; omega⟩
        rw [s1, s2, joinS, if_pos (by show a + m - 1 + 1 = a + m; omega)]
/-- words are no longer than the depth lets them be -/
theorem wrd_pow (st : Ps) : okS w st → ∀ x, x < w + st.length → (wrd w st x).length ≤ 2 ^ (evL (fun a b => 1 + max a b) 0 (fun _ => 0) w st).getD x 0 := by
  refine snoc_ind (P := fun st => okS w st → ∀ x, x < w + st.length → (wrd w st x).length ≤ 2 ^ (evL (fun a b => 1 + max a b) 0 (fun _ => 0) w st).getD x 0) ?_ ?_ st
  · intro _ x hx
    have hx : x < w := by simpa using hx
    rw [wrd, ev_leaf hx, ev_leaf hx]
    exact Nat.le_refl _
  · intro st p ih hok x hx
    obtain ⟨k1, k2, k3⟩ := hok.cut
    rcases new_or hx with hx | hx
    · rw [wrd, ev_old hx, ev_old hx]; exact ih k1 x hx
    · subst hx
      rw [wrd, ev_new, ev_new, List.length_append, Nat.add_comm 1, Nat.pow_succ]
      have a1 := ih k1 _ k2
      have a2 := ih k1 _ k3
      obtain ⟨u, eu⟩ : ∃ u, u = (evL (fun a b => 1 + max a b) 0 (fun _ => 0) w st).getD p.1 0 := ⟨_, rfl⟩
      obtain ⟨v, ev⟩ : ∃ v, v = (evL (fun a b => 1 + max a b) 0 (fun _ => 0) w st).getD p.2 0 := ⟨_, rfl⟩
      rw [← eu] at a1 ⊢
      rw [← ev] at a2 ⊢
      have b1 : 2 ^ u ≤ 2 ^ max u v := Nat.pow_le_pow_right (by decide) (by omega)
      have b2 : 2 ^ v ≤ 2 ^ max u v := Nat.pow_le_pow_right (by decide) (by omega)
      show (wrd w st p.1).length + (wrd w st p.2).length ≤ 2 ^ max u v * 2
      omega
end
end Sm

namespace Sm
open PySem L2 DL
def leN (a b : Nat) : Bool := decide (a ≤ b)
def sortL (l : List Nat) : List Nat := l.mergeSort leN
theorem sortL_perm (l : List Nat) : (sortL l).Perm l := List.mergeSort_perm l leN
theorem sortL_pw (l : List Nat) : (sortL l).Pairwise (· ≤ ·) := by
  have := List.pairwise_mergeSort (le := leN) (fun a b c h1 h2 => decide_eq_true (Nat.le_trans (of_decide_eq_true h1) (of_decide_eq_true h2))) (fun a b => by
    unfold leN
    rcases Nat.le_total a b with h | h
    · rw [decide_eq_true h]; rfl
    · rw [decide_eq_true h, Bool.or_true]) l
  exact this.imp fun h => of_decide_eq_true h
/-- the members, each once -/
def setL (l : List Nat) : List Nat := (List.range 64).filter fun t => decide (t ∈ l)
def isDue (kd : Str) (l : List Nat) (k : Nat) : Bool := if kd = "any" then decide (l = List.range (k + 1)) else if kd = "commuting" then decide (sortL l = List.range (k + 1)) else decide (setL l = List.range (k + 1))
theorem sort_due {l : List Nat} {k : Nat} : sortL l = List.range (k + 1) ↔ ∀ t, l.count t = if t ≤ k then 1 else 0 := by
  have hc : ∀ t, (List.range (k + 1)).count t = if t ≤ k then 1 else 0 := fun t => by
    rw [List.nodup_range.count]
    by_cases h : t ≤ k
    · rw [if_pos (List.mem_range.mpr (by omega)), if_pos h]
    · rw [if_neg (fun z => h (by have := List.mem_range.mp z; omega)), if_neg h]
  constructor
  · intro h t
    rw [← (sortL_perm l).count_eq, h, hc]
  · intro h
    refine uniq (r := fun a b : Nat => a ≤ b) (fun a b h1 h2 => Nat.le_antisymm h1 h2) ?_ (sortL_pw l) (List.pairwise_lt_range.imp fun h => Nat.le_of_lt h)
    refine (sortL_perm l).trans (List.perm_iff_count.mpr fun t => ?_)
    rw [h, hc]
theorem set_due {l : List Nat} {k : Nat} (hl : ∀ t ∈ l, t < 64) (hk : k < 64) : setL l = List.range (k + 1) ↔ ∀ t, t ∈ l ↔ t ≤ k := by
  constructor
  · intro h t
    have : t ∈ setL l ↔ t ∈ List.range (k + 1) := by rw [h]
    rw [List.mem_range, setL, List.mem_filter, List.mem_range] at this
    constructor
    · intro z
      have := this.mp ⟨hl t z, decide_eq_true z⟩
      omega
    · intro z
      exact of_decide_eq_true (this.mpr (by omega)).2
  · intro h
    refine uniq (r := fun a b : Nat => a ≤ b) (fun a b h1 h2 => Nat.le_antisymm h1 h2) ?_ ?_ (List.pairwise_lt_range.imp fun h => Nat.le_of_lt h)
    · refine perm_nd (List.nodup_range.sublist List.filter_sublist) List.nodup_range fun x => ?_
      rw [setL, List.mem_filter, List.mem_range, List.mem_range, decide_eq_true_eq, h]
      omega
    · exact (List.pairwise_lt_range.sublist List.filter_sublist).imp fun h => Nat.le_of_lt h
def Nt.word (n : Nt) (k : Nat) : List Nat := wrd n.wide n.steps (n.outs.getD k 0)
theorem upto0 (k : Nat) : uptoL 0 k = List.range (k + 1) := by rw [uptoL, List.range_eq_range']; rfl
theorem bad_due {n : Nt} (hg : n.good) {k : Nat} (hk : k < n.wide) {s : Str} (hs : s = "any" ∨ s = "commuting" ∨ s = "greatest") : badOut n s k = !isDue s (n.word k) k := by
  have ho : n.outs.getD k 0 < n.wide + n.steps.length := hg.os _ (getD_mem 0 (by rw [hg.lo]; exact hk))
  have g2 := hg.w2
  have hcl : (n.cnts.getD (n.outs.getD k 0) []).length = n.wide := n.cnts_row _ (getD_mem [] (by rw [n.cnts_len]; exact ho))
  have hc : ∀ t, t < n.wide → (n.cnts.getD (n.outs.getD k 0) []).getD t 0 = (n.word k).count t := fun t ht => wrd_count n.steps hg.st _ ho t ht
  have hlt : ∀ t ∈ n.word k, t < n.wide := wrd_lt n.steps hg.st _ ho
  have h0 : ∀ t, ¬ t < n.wide → (n.word k).count t = 0 := fun t ht => List.count_eq_zero.mpr fun z => ht (hlt t z)
  rcases hs with rfl | hs
  · unfold badOut isDue
    rw [if_pos rfl, show decide (("any" : Str) = "any") = true by decide, show decide (("any" : Str) = "commuting") = false by decide, show decide (("any" : Str) = "greatest") = false by decide, Bool.true_and, Bool.false_and, Bool.false_and, Bool.or_false, Bool.or_false]
    congr 1
    rw [decide_eq_decide]
    have := span_word n.steps hg.st (n.outs.getD k 0) 0 k ho
    rw [upto0] at this
    exact this.trans ⟨fun z => z.2, fun z => ⟨Nat.zero_le _, z⟩⟩
  rcases hs with rfl | hs
  · unfold badOut isDue
    rw [if_neg (by decide), if_pos rfl, show decide (("commuting" : Str) = "any") = false by decide, show decide (("commuting" : Str) = "commuting") = true by decide, show decide (("commuting" : Str) = "greatest") = false by decide, Bool.true_and, Bool.false_and, Bool.false_and, Bool.or_false, Bool.false_or]
    congr 1
    rw [decide_eq_decide, sort_due]
    constructor
    · intro h t
      by_cases ht : t < n.wide
      · rw [← hc t ht, h, uptoN, getD_mapR _ _ ht]
      · rw [h0 t ht, if_neg (by omega)]
    · intro h
      refine ext_getD2 0 (by rw [hcl, uptoN, List.length_map, List.length_range]) fun t ht => ?_
      rw [hcl] at ht
      rw [hc t ht, h, uptoN, getD_mapR _ _ ht]
  · subst hs
    unfold badOut isDue
    rw [if_neg (by decide), if_neg (by decide), show decide (("greatest" : Str) = "any") = false by decide, show decide (("greatest" : Str) = "commuting") = false by decide, show decide (("greatest" : Str) = "greatest") = true by decide, Bool.true_and, Bool.false_and, Bool.false_and, Bool.false_or, Bool.false_or]
    congr 1
    rw [decide_eq_decide, set_due (fun t ht => by have := hlt t ht; omega) (by omega)]
    have hm : ∀ t, t < n.wide → (0 < (n.cnts.getD (n.outs.getD k 0) []).getD t 0 ↔ t ∈ n.word k) := fun t ht => by rw [hc t ht]; exact List.count_pos_iff
    constructor
    · intro h t
      by_cases ht : t < n.wide
      · have e1 : ((n.cnts.getD (n.outs.getD k 0) []).map fun x => decide (0 < x)).getD t false = ((List.range n.wide).map fun t => decide (t ≤ k)).getD t false := by rw [h]
        rw [getD_map (fun x => decide (0 < x)) (d0 := 0) (by rw [hcl]; exact ht), getD_mapR _ _ ht, decide_eq_decide] at e1
        exact (hm t ht).symm.trans e1
      · constructor
        · intro z; exact absurd (hlt t z) ht
        · intro z; omega
    · intro h
      refine ext_getD2 false (by rw [List.length_map, hcl, List.length_map, List.length_range]) fun t ht => ?_
      rw [List.length_map, hcl] at ht
      rw [getD_map (fun x => decide (0 < x)) (d0 := 0) (by rw [hcl]; exact ht), getD_mapR _ _ ht, decide_eq_decide]
      exact (hm t ht).trans (h t)
end Sm

namespace Sm
open PySem L2 DL
/-! what a right net tells, by an operation that may be put together in any pairs -/
section
variable {α : Type} {op : α → α → α} {d : α} {leaf : Nat → α} {w : Nat}
def sgm (op : α → α → α) (leaf : Nat → α) (a : Nat) : Nat → α
  | 0 => leaf a
  | m + 1 => op (sgm op leaf a m) (leaf (a + (m + 1)))
theorem sgm_join (as : ∀ x y z, op (op x y) z = op x (op y z)) {a m : Nat} : ∀ j, op (sgm op leaf a m) (sgm op leaf (a + m + 1) j) = sgm op leaf a (m + 1 + j)
  | 0 => rfl
  | j + 1 => by
    have e : m + 1 + (j + 1) = (m + 1 + j) + 1 := rfl
    rw [e, sgm, sgm, ← sgm_join as j, as]
    congr 3
    omega
theorem ev_span (as : ∀ x y z, op (op x y) z = op x (op y z)) (st : Ps) : okS w st → ∀ x a b, x < w + st.length → spanAt w st x = some (a, b) → (evL op d leaf w st).getD x d = sgm op leaf a (b - a) := by
  refine snoc_ind (P := fun st => okS w st → ∀ x a b, x < w + st.length → spanAt w st x = some (a, b) → (evL op d leaf w st).getD x d = sgm op leaf a (b - a)) ?_ ?_ st
  · intro _ x a b hx h
    have hx : x < w := by simpa using hx
    rw [span_thing hx] at h
    simp at h
    obtain ⟨rfl, rfl⟩ := h
    rw [ev_leaf hx, Nat.sub_self]
    rfl
  · intro st p ih hok x a b hx h
    obtain ⟨k1, k2, k3⟩ := hok.cut
    rcases new_or hx with hx | hx
    · rw [span_old hx] at h
      rw [ev_old hx]
      exact ih k1 x a b hx h
    · subst hx
      rw [span_new] at h
      rw [ev_new]
      obtain ⟨c, e1, e2⟩ := joinS_some h
      obtain ⟨a1, _, _⟩ := span_pow w st k1 _ _ _ k2 e1
      obtain ⟨b1, _, _⟩ := span_pow w st k1 _ _ _ k3 e2
      rw [ih k1 _ _ _ k2 e1, ih k1 _ _ _ k3 e2]
      have j := sgm_join (leaf := leaf) as (a := a) (m := c - a) (b - (c + 1))
      have e3 : a + (c - a) + 1 = c + 1 := by omega
      have e4 : c - a + 1 + (b - (c + 1)) = b - a := by omega
      rw [e3, e4] at j
      exact j
theorem ev_right (as : ∀ x y z, op (op x y) z = op x (op y z)) {n : Nt} (hg : n.good) (hr : wrongN n "any" = none) {k : Nat} (hk : k < n.wide) : (evL op d leaf n.wide n.steps).getD (n.outs.getD k 0) d = sgm op leaf 0 k :=
  ev_span as n.steps hg.st _ 0 k (hg.os _ (getD_mem 0 (by rw [hg.lo]; exact hk))) (span_out hr hk)
end
end Sm

namespace Sm
open PySem L2 DL
/-- what rows hold: texts, or whole numbers -/
inductive Vl where
  | s (x : Str) | i (x : Int)
def eV : Vl → D
  | .s x => .str x
  | .i x => .int x
def Vl.isS : Vl → Bool
  | .s _ => true
  | .i _ => false
def Vl.len : Vl → Nat
  | .s x => x.length
  | .i _ => 0
def Vl.ok : Vl → Prop
  | .s x => PyData.strOk x = true
  | .i _ => True
def opV (kd : Str) : Vl → Vl → Vl
  | .s x, .s y => .s (x ++ y)
  | .i x, .i y => if kd = "greatest" then .i (max x y) else .i (x + y)
  | .s x, .i _ => .s x
  | .i _, .s y => .s y
theorem str_assoc (a b c : Str) : a ++ b ++ c = a ++ (b ++ c) := by
  show Str.mk _ = Str.mk _
  congr 1
  exact Array.append_assoc
theorem opV_as (kd : Str) : ∀ x y z, opV kd (opV kd x y) z = opV kd x (opV kd y z) := by
  intro x y z
  cases x <;> cases y <;> cases z <;> unfold opV
  all_goals first | rfl | skip
  · exact congrArg Vl.s (str_assoc _ _ _)
  all_goals by_cases h : kd = "greatest" <;> simp [h]
  all_goals omega
theorem strOk_app {x y : Str} (hx : PyData.strOk x = true) (hy : PyData.strOk y = true) : PyData.strOk (x ++ y) = true := by
  unfold PyData.strOk at *
  show (x.cps ++ y.cps).all _ = true
  rw [Array.all_append, hx, hy]
  rfl
theorem str_len (x y : Str) : (x ++ y).length = x.length + y.length := by
  show (x.cps ++ y.cps).size = _
  rw [Array.size_append]
  rfl
theorem opV_ii (kd : Str) (x y : Int) : opV kd (.i x) (.i y) = .i (if kd = "greatest" then max x y else x + y) := by
  show (if kd = "greatest" then Vl.i (max x y) else .i (x + y)) = _
  split <;> rfl
theorem opV_ok (kd : Str) : ∀ {x y : Vl}, x.ok → y.ok → (opV kd x y).ok
  | .s _, .s _, hx, hy => strOk_app hx hy
  | .s _, .i _, hx, _ => hx
  | .i _, .s _, _, hy => hy
  | .i x, .i y, _, _ => by rw [opV_ii]; exact True.intro
theorem opV_len (kd : Str) : ∀ x y : Vl, (opV kd x y).len ≤ x.len + y.len
  | .s _, .s _ => Nat.le_of_eq (str_len _ _)
  | .s _, .i _ => Nat.le_add_right _ _
  | .i _, .s _ => Nat.le_add_left _ _
  | .i x, .i y => by rw [opV_ii]; exact Nat.zero_le _
theorem opV_isS (kd : Str) {b : Bool} : ∀ {x y : Vl}, x.isS = b → y.isS = b → (opV kd x y).isS = b
  | .s _, .s _, hx, _ => hx
  | .s _, .i _, hx, _ => hx
  | .i _, .s _, _, hy => hy
  | .i x, .i y, hx, _ => by rw [opV_ii]; exact hx
theorem sh_eV (n : Nat) {v : Vl} (h : v.ok) : Sh n (eV v) := by
  cases v with
  | s x => cases n <;> exact h
  | i x => exact sh_int n x
instance : DecidableEq Vl := fun x y => by
  cases x <;> cases y
  · rename_i a b
    exact if h : a = b then isTrue (by rw [h]) else isFalse fun z => h (by cases z; rfl)
  · exact isFalse fun z => nomatch z
  · exact isFalse fun z => nomatch z
  · rename_i a b
    exact if h : a = b then isTrue (by rw [h]) else isFalse fun z => h (by cases z; rfl)
theorem inj_eV : Inj eV := fun x y => by
  cases x <;> cases y
  · rw [eV, eV, eqv_str, decide_eq_decide]; exact ⟨fun h => by rw [h], fun h => by cases h; rfl⟩
  · rw [decide_eq_false (fun z => nomatch z)]; rfl
  · rw [decide_eq_false (fun z => nomatch z)]; rfl
  · rw [eV, eV, eqv_int, decide_eq_decide]; exact ⟨fun h => by rw [h], fun h => by cases h; rfl⟩
def rowV (row : List Vl) (t : Nat) : Vl := row.getD t (.i 0)
theorem row_map (row : List Vl) : (List.range row.length).map (rowV row) = row := by
  refine ext_getD2 (.i 0) (by rw [List.length_map, List.length_range]) fun x hx => ?_
  rw [List.length_map, List.length_range] at hx
  rw [getD_mapR _ _ hx]
  rfl
def runL (n : Nt) (kd : Str) (row : List Vl) : List Vl := evL (opV kd) (.i 0) (rowV row) n.wide n.steps
def runO (n : Nt) (kd : Str) (row : List Vl) : List Vl := n.outs.map fun o => (runL n kd row).getD o (.i 0)
def rowOk (w : Nat) (kd : Str) (row : List Vl) : Prop := row.length = w ∧ ∀ v ∈ row, v.isS = decide (kd = "any")
/-- the sums of beginnings -/
def plF (kd : Str) (l : List Vl) (v : Vl) : List Vl := l ++ [if l = [] then v else opV kd (l.getD (l.length - 1) (.i 0)) v]
def plainL (kd : Str) (row : List Vl) : List Vl := row.foldl (plF kd) []
theorem plain_at (kd : Str) (row : List Vl) : ∀ k, k ≤ row.length → ((row.take k).foldl (plF kd) []).length = k ∧ ∀ i, i < k → ((row.take k).foldl (plF kd) []).getD i (.i 0) = sgm (opV kd) (rowV row) 0 i
  | 0, _ => ⟨rfl, fun i h => absurd h (Nat.not_lt_zero _)⟩
  | k + 1, hk => by
    obtain ⟨h1, h2⟩ := plain_at kd row k (by omega)
    have e : row[k]? = some (rowV row k) := by rw [rowV, List.getD_eq_getElem?_getD, List.getElem?_eq_getElem (by omega)]; rfl
    rw [List.take_add_one, e, List.foldl_append]
    show (plF kd _ _).length = _ ∧ ∀ i, _ → (plF kd _ _).getD i _ = _
    generalize (row.take k).foldl (plF kd) [] = L at *
    refine ⟨by rw [plF, List.length_append, h1]; rfl, fun i hi => ?_⟩
    rw [plF, getD_snoc, h1]
    by_cases hlt : i < k
    · rw [if_pos hlt]; exact h2 i hlt
    · have ei : i = k := by omega
      subst ei
      rw [if_neg hlt, if_pos rfl]
      cases i with
      | zero =>
        have : L = [] := List.eq_nil_of_length_eq_zero h1
        rw [if_pos this]
        rfl
      | succ i =>
        have : L ≠ [] := fun z => by rw [z] at h1; cases h1
        rw [if_neg this, h2 _ (by omega)]
        show opV kd (sgm (opV kd) (rowV row) 0 (i + 1 - 1)) _ = opV kd (sgm (opV kd) (rowV row) 0 i) (rowV row (0 + (i + 1)))
        rw [Nat.zero_add]
        rfl
theorem plain_len (kd : Str) (row : List Vl) : (plainL kd row).length = row.length := by
  have := (plain_at kd row row.length (Nat.le_refl _)).1
  rwa [List.take_length] at this
theorem plain_get (kd : Str) (row : List Vl) {i : Nat} (h : i < row.length) : (plainL kd row).getD i (.i 0) = sgm (opV kd) (rowV row) 0 i := by
  have := (plain_at kd row row.length (Nat.le_refl _)).2 i h
  rwa [List.take_length] at this
end Sm

namespace Sm
open PySem L2 DL
theorem run_len {n : Nt} (hg : n.good) (kd : Str) (row : List Vl) : (runO n kd row).length = n.wide := by rw [runO, List.length_map, hg.lo]
/-- what a net tells of a row, by its words -/
theorem run_word {n : Nt} (hg : n.good) (kd : Str) (row : List Vl) {k : Nat} (hk : k < n.wide) : (runO n kd row).getD k (.i 0) = sumL (opV kd) (.i 0) ((n.word k).map (rowV row)) := by
  have hk2 : k < n.outs.length := by rw [hg.lo]; exact hk
  rw [runO, getD_map (fun o => (runL n kd row).getD o (.i 0)) (d0 := 0) hk2]
  exact ev_word (opV_as kd) n.steps hg.st _ (hg.os _ (getD_mem 0 hk2))
theorem sgm_sum {α : Type} (op : α → α → α) (d : α) (leaf : Nat → α) : ∀ k, sgm op leaf 0 k = sumL op d ((List.range (k + 1)).map leaf)
  | 0 => rfl
  | k + 1 => by
    have ne : (List.range (k + 1)).map leaf ≠ [] := fun z => by have := congrArg List.length z; rw [List.length_map, List.length_range] at this; exact absurd this (by simp)
    rw [sgm, sgm_sum op d leaf k, List.range_succ (n := k + 1), List.map_append, Nat.zero_add]
    cases e : (List.range (k + 1)).map leaf with
    | nil => exact absurd e ne
    | cons x r =>
      show op (r.foldl op x) (leaf (k + 1)) = (r ++ [leaf (k + 1)]).foldl op x
      rw [List.foldl_append]
      rfl
theorem plain_word (kd : Str) (row : List Vl) {k : Nat} (hk : k < row.length) : (plainL kd row).getD k (.i 0) = sumL (opV kd) (.i 0) ((List.range (k + 1)).map (rowV row)) := by
  rw [plain_get kd row hk, sgm_sum _ (.i 0)]
end Sm

namespace Sm
open PySem L2 DL
theorem fold_ints {kd : Str} (h : kd ≠ "greatest") (f : Nat → Int) : ∀ (r : List Nat) (a : Int), (r.map fun t => Vl.i (f t)).foldl (opV kd) (.i a) = .i (a + (r.map f).sum)
  | [], a => by rw [List.map_nil, List.map_nil, List.sum_nil, Int.add_zero]; rfl
  | t :: r, a => by
    rw [List.map_cons, List.foldl_cons, opV_ii, if_neg h, fold_ints h f r, List.map_cons, List.sum_cons, Int.add_assoc]
theorem sum_ints {kd : Str} (h : kd ≠ "greatest") (f : Nat → Int) {l : List Nat} (hl : l ≠ []) : sumL (opV kd) (.i 0) (l.map fun t => Vl.i (f t)) = .i (l.map f).sum := by
  cases l with
  | nil => exact absurd rfl hl
  | cons t r =>
    show (r.map fun t => Vl.i (f t)).foldl (opV kd) (.i (f t)) = _
    rw [fold_ints h f r, List.map_cons, List.sum_cons]
theorem fold_max (f : Nat → Int) : ∀ (r : List Nat) (a : Int), ∃ m, (r.map fun t => Vl.i (f t)).foldl (opV "greatest") (.i a) = .i m ∧ a ≤ m ∧ (∀ t ∈ r, f t ≤ m) ∧ (m = a ∨ ∃ t ∈ r, m = f t)
  | [], a => ⟨a, rfl, Int.le_refl _, fun _ z => (nomatch z), .inl rfl⟩
  | t :: r, a => by
    obtain ⟨m, e, h1, h2, h3⟩ := fold_max f r (max a (f t))
    refine ⟨m, by rw [List.map_cons, List.foldl_cons, opV_ii, if_pos rfl, e], by omega, fun u hu => ?_, ?_⟩
    · rcases List.mem_cons.mp hu with rfl | hu
      · omega
      · exact h2 u hu
    · rcases h3 with h3 | ⟨u, hu, h3⟩
      · by_cases z : a ≤ f t
        · exact .inr ⟨t, List.mem_cons_self, by omega⟩
        · exact .inl (by omega)
      · exact .inr ⟨u, List.mem_cons_of_mem _ hu, h3⟩
/-- the greatest of a word -/
theorem max_ints (f : Nat → Int) {l : List Nat} (hl : l ≠ []) : ∃ m, sumL (opV "greatest") (.i 0) (l.map fun t => Vl.i (f t)) = .i m ∧ (∀ t ∈ l, f t ≤ m) ∧ ∃ t ∈ l, m = f t := by
  cases l with
  | nil => exact absurd rfl hl
  | cons t r =>
    obtain ⟨m, e, h1, h2, h3⟩ := fold_max f r (f t)
    refine ⟨m, e, fun u hu => ?_, ?_⟩
    · rcases List.mem_cons.mp hu with rfl | hu
      · exact h1
      · exact h2 u hu
    · rcases h3 with h3 | ⟨u, hu, h3⟩
      · exact ⟨t, List.mem_cons_self, h3⟩
      · exact ⟨u, List.mem_cons_of_mem _ hu, h3⟩
end Sm

namespace Sm
open PySem L2 DL
theorem sum_perm {l m : List Int} (h : l.Perm m) : l.sum = m.sum := by
  induction h with
  | nil => rfl
  | cons x _ ih => rw [List.sum_cons, List.sum_cons, ih]
  | swap x y l => rw [List.sum_cons, List.sum_cons, List.sum_cons, List.sum_cons]; omega
  | trans _ _ i1 i2 => exact i1.trans i2
theorem range_ne (k : Nat) : List.range (k + 1) ≠ [] := fun z => by have := congrArg List.length z; rw [List.length_range] at this; exact absurd this (by simp)
/-- a word that is due comes to the sum of the beginning -/
theorem due_sum {l : List Nat} {k : Nat} (hl : l ≠ []) (h : isDue "commuting" l k = true) (f : Nat → Int) : sumL (opV "commuting") (.i 0) (l.map fun t => Vl.i (f t)) = sumL (opV "commuting") (.i 0) ((List.range (k + 1)).map fun t => Vl.i (f t)) := by
  rw [isDue, if_neg (by decide), if_pos rfl] at h
  have e := of_decide_eq_true h
  rw [sum_ints (by decide) f hl, sum_ints (by decide) f (range_ne k), ← e, sum_perm ((sortL_perm l).symm.map f)]
theorem due_max {l : List Nat} {k : Nat} (hl : l ≠ []) (h64 : ∀ t ∈ l, t < 64) (hk : k < 64) (h : isDue "greatest" l k = true) (f : Nat → Int) : sumL (opV "greatest") (.i 0) (l.map fun t => Vl.i (f t)) = sumL (opV "greatest") (.i 0) ((List.range (k + 1)).map fun t => Vl.i (f t)) := by
  rw [isDue, if_neg (by decide), if_neg (by decide)] at h
  have e := (set_due h64 hk).mp (of_decide_eq_true h)
  obtain ⟨m1, e1, a1, u, hu, b1⟩ := max_ints f hl
  obtain ⟨m2, e2, a2, v, hv, b2⟩ := max_ints f (range_ne k)
  rw [e1, e2]
  have c1 := a2 u (List.mem_range.mpr (by have := (e u).mp hu; omega))
  have c2 := a1 v ((e v).mpr (by have := List.mem_range.mp hv; omega))
  congr 1
  omega
end Sm

namespace Sm
open PySem L2 DL
def unitF (b t : Nat) : Int := if t = b then 1 else 0
theorem sum_unit (b : Nat) : ∀ l : List Nat, (l.map (unitF b)).sum = ((l.count b : Nat) : Int)
  | [] => rfl
  | x :: r => by
    rw [List.map_cons, List.sum_cons, sum_unit b r, List.count_cons, unitF]
    by_cases h : x = b
    · rw [if_pos h, if_pos (by rw [h]; exact beq_self_eq_true _)]; omega
    · rw [if_neg h, if_neg (by rw [beq_iff_eq]; exact h)]; omega
theorem brk_sum {l : List Nat} {k b : Nat} (hl : l ≠ []) (h : l.count b ≠ if b ≤ k then 1 else 0) : sumL (opV "commuting") (.i 0) (l.map fun t => Vl.i (unitF b t)) ≠ sumL (opV "commuting") (.i 0) ((List.range (k + 1)).map fun t => Vl.i (unitF b t)) := by
  rw [sum_ints (by decide) _ hl, sum_ints (by decide) _ (range_ne k), sum_unit, sum_unit, List.nodup_range.count]
  intro z
  have z : ((l.count b : Nat) : Int) = ((if b ∈ List.range (k + 1) then 1 else 0 : Nat) : Int) := by injection z
  have e : (if b ∈ List.range (k + 1) then 1 else 0 : Nat) = if b ≤ k then 1 else 0 := by
    by_cases q : b ≤ k
    · rw [if_pos q, if_pos (List.mem_range.mpr (by omega))]
    · rw [if_neg q, if_neg (fun w => q (by have := List.mem_range.mp w; omega))]
  rw [e] at z
  exact h (by omega)
theorem brk_max {l : List Nat} {k b : Nat} (hl : l ≠ []) (h : ¬ (b ∈ l ↔ b ≤ k)) : sumL (opV "greatest") (.i 0) (l.map fun t => Vl.i (unitF b t)) ≠ sumL (opV "greatest") (.i 0) ((List.range (k + 1)).map fun t => Vl.i (unitF b t)) := by
  obtain ⟨m1, e1, a1, u, hu, b1⟩ := max_ints (unitF b) hl
  obtain ⟨m2, e2, a2, v, hv, b2⟩ := max_ints (unitF b) (range_ne k)
  rw [e1, e2]
  intro z
  have z : m1 = m2 := by injection z
  have f1 : m1 = 1 ↔ b ∈ l := by
    constructor
    · intro q
      rw [b1, unitF] at q
      by_cases w : u = b
      · rw [← w]; exact hu
      · rw [if_neg w] at q; omega
    · intro q
      have := a1 b q
      rw [unitF, if_pos rfl] at this
      have : unitF b u ≤ 1 := by unfold unitF; split <;> omega
      omega
  have f2 : m2 = 1 ↔ b ≤ k := by
    constructor
    · intro q
      rw [b2, unitF] at q
      by_cases w : v = b
      · rw [← w]; have := List.mem_range.mp hv; omega
      · rw [if_neg w] at q; omega
    · intro q
      have := a2 b (List.mem_range.mpr (by omega))
      rw [unitF, if_pos rfl] at this
      have : unitF b v ≤ 1 := by unfold unitF; split <;> omega
      omega
  exact h (f1.symm.trans ((by rw [z] : m1 = 1 ↔ m2 = 1).trans f2))
end Sm

namespace Sm
open PySem L2 DL
def codeT (t : Nat) : List Nat := (thingS t).cps.toList
theorem code_len : ∀ t, t < 6 → (codeT t).length = 3 := by decide +kernel
theorem code_inj : ∀ a, a < 6 → ∀ b, b < 6 → codeT a = codeT b → a = b := by decide +kernel
theorem code_list : ∀ l m : List Nat, (∀ t ∈ l, t < 6) → (∀ t ∈ m, t < 6) → l.flatMap codeT = m.flatMap codeT → l = m
  | [], [], _, _, _ => rfl
  | [], b :: m, _, h2, h => by
    have := congrArg List.length h
    rw [List.flatMap_cons, List.length_append, code_len b (h2 b List.mem_cons_self)] at this
    simp at this
    omega
  | a :: l, [], h1, _, h => by
    have := congrArg List.length h
    rw [List.flatMap_cons, List.length_append, code_len a (h1 a List.mem_cons_self)] at this
    simp at this
  | a :: l, b :: m, h1, h2, h => by
    rw [List.flatMap_cons, List.flatMap_cons] at h
    have ha := h1 a List.mem_cons_self
    have hb := h2 b List.mem_cons_self
    obtain ⟨e1, e2⟩ := List.append_inj h (by rw [code_len a ha, code_len b hb])
    rw [code_inj a ha b hb e1, code_list l m (fun t ht => h1 t (List.mem_cons_of_mem _ ht)) (fun t ht => h2 t (List.mem_cons_of_mem _ ht)) e2]
theorem fold_code : ∀ (r : List Nat) (x : Str), ∃ z : Str, (r.map fun t => Vl.s (thingS t)).foldl (opV "any") (.s x) = .s z ∧ z.cps.toList = x.cps.toList ++ r.flatMap codeT
  | [], x => ⟨x, rfl, by simp⟩
  | t :: r, x => by
    obtain ⟨z, e, h⟩ := fold_code r (x ++ thingS t)
    refine ⟨z, e, ?_⟩
    rw [h, List.flatMap_cons, ← List.append_assoc]
    congr 1
    show (x.cps ++ (thingS t).cps).toList = _
    rw [Array.toList_append]
    rfl
theorem sum_code {l : List Nat} (hl : l ≠ []) : ∃ z : Str, sumL (opV "any") (.i 0) (l.map fun t => Vl.s (thingS t)) = .s z ∧ z.cps.toList = l.flatMap codeT := by
  cases l with
  | nil => exact absurd rfl hl
  | cons t r =>
    obtain ⟨z, e, h⟩ := fold_code r (thingS t)
    exact ⟨z, e, h⟩
theorem brk_any {l : List Nat} {k : Nat} (hl : l ≠ []) (h6 : ∀ t ∈ l, t < 6) (hk : k < 6) (h : l ≠ List.range (k + 1)) : sumL (opV "any") (.i 0) (l.map fun t => Vl.s (thingS t)) ≠ sumL (opV "any") (.i 0) ((List.range (k + 1)).map fun t => Vl.s (thingS t)) := by
  obtain ⟨z1, e1, f1⟩ := sum_code hl
  obtain ⟨z2, e2, f2⟩ := sum_code (range_ne k)
  rw [e1, e2]
  intro z
  have z : z1 = z2 := by injection z
  exact h (code_list _ _ h6 (fun t ht => by have := List.mem_range.mp ht; omega) (by rw [← f1, ← f2, z]))
end Sm

namespace Sm
open PySem L2 DL
section
variable {w : Nat}
abbrev dpt (w : Nat) (st : Ps) (x : Nat) : Nat := (evL (fun a b => 1 + max a b) 0 (fun _ => 0) w st).getD x 0
theorem dpt_steps (st : Ps) : okS w st → ∀ x, x < w + st.length → dpt w st x ≤ st.length := by
  refine snoc_ind (P := fun st => okS w st → ∀ x, x < w + st.length → dpt w st x ≤ st.length) ?_ ?_ st
  · intro _ x hx
    have hx : x < w := by simpa using hx
    rw [dpt, ev_leaf hx]
    exact Nat.zero_le _
  · intro st p ih hok x hx
    obtain ⟨k1, k2, k3⟩ := hok.cut
    rw [List.length_append]
    rcases new_or hx with hx | hx
    · rw [dpt, ev_old hx]; exact Nat.le_trans (ih k1 x hx) (Nat.le_add_right _ _)
    · subst hx
      rw [dpt, ev_new]
      have a1 := ih k1 _ k2
      have a2 := ih k1 _ k3
      show 1 + max (dpt w st p.1) (dpt w st p.2) ≤ st.length + 1
      omega
/-- a stretch is no deeper than it is long, where all nodes are stretches -/
theorem dpt_span (st : Ps) : okS w st → (∀ x, x < w + st.length → spanAt w st x ≠ none) → ∀ x a b, x < w + st.length → spanAt w st x = some (a, b) → a ≤ b ∧ dpt w st x ≤ b - a := by
  refine snoc_ind (P := fun st => okS w st → (∀ x, x < w + st.length → spanAt w st x ≠ none) → ∀ x a b, x < w + st.length → spanAt w st x = some (a, b) → a ≤ b ∧ dpt w st x ≤ b - a) ?_ ?_ st
  · intro _ _ x a b hx h
    have hx : x < w := by simpa using hx
    rw [span_thing hx] at h
    simp at h
    rw [dpt, ev_leaf hx]
    omega
  · intro st p ih hok hs x a b hx h
    obtain ⟨k1, k2, k3⟩ := hok.cut
    have hs1 : ∀ x, x < w + st.length → spanAt w st x ≠ none := fun x hx => by
      have := hs x (by rw [List.length_append]; omega)
      rwa [span_old hx] at this
    rcases new_or hx with hx | hx
    · rw [span_old hx] at h
      rw [dpt, ev_old hx]
      exact ih k1 hs1 x a b hx h
    · subst hx
      rw [span_new] at h
      obtain ⟨c, e1, e2⟩ := joinS_some h
      obtain ⟨a1, a2⟩ := ih k1 hs1 _ _ _ k2 e1
      obtain ⟨b1, b2⟩ := ih k1 hs1 _ _ _ k3 e2
      rw [dpt, ev_new]
      refine ⟨by omega, ?_⟩
      show 1 + max (dpt w st p.1) (dpt w st p.2) ≤ b - a
      omega
end
end Sm

namespace Sm
open PySem L2 DL
theorem put_mem2 {k : Nat × Nat} {x : Nat} {kv} {q : (Nat × Nat) × Nat} (h : q ∈ put kv k x) : q ∈ kv ∨ q = (k, x) := by
  unfold put at h
  split at h
  · obtain ⟨p, hp, rfl⟩ := List.mem_map.mp h
    by_cases e : p.1 = k
    · rw [if_pos e]; exact .inr (by rw [← e])
    · rw [if_neg e]; exact .inl hp
  · rcases List.mem_append.mp h with h | h
    · exact .inl h
    · exact .inr (List.mem_singleton.mp h)
theorem look_mem2 {k : Nat × Nat} {x : Nat} {kv} (h : look kv k = some x) : (k, x) ∈ kv := by
  unfold look at h
  cases e : kv.find? fun p => decide (p.1 = k) with
  | none => rw [e] at h; cases h
  | some q =>
    rw [e] at h
    have h2 : q.2 = x := Option.some.inj h
    have h1 : q.1 = k := by
      have := List.find?_some e
      exact of_decide_eq_true this
    have := List.mem_of_find?_eq_some e
    rw [← h1, ← h2]
    exact this
section
variable {w : Nat}
theorem span_app (ext : Ps) : ∀ (st : Ps) (x : Nat), x < w + st.length → spanAt w (st ++ ext) x = spanAt w st x := by
  refine snoc_ind (P := fun ext => ∀ (st : Ps) (x : Nat), x < w + st.length → spanAt w (st ++ ext) x = spanAt w st x) ?_ ?_ ext
  · intro st x _
    rw [List.append_nil]
  · intro l p ih st x hx
    rw [← List.append_assoc, span_old (by rw [List.length_append]; omega)]
    exact ih st x hx
/-- all nodes are stretches, and the nodes kept are the stretches that they are kept for -/
structure CS.sp (w : Nat) (s : CS) : Prop where
  all : ∀ x, x < w + s.st.length → spanAt w s.st x ≠ none
  kv : ∀ q ∈ s.kv, spanAt w s.st q.2 = some q.1
theorem span_thing2 (st : Ps) {x : Nat} (h : x < w) : spanAt w st x = some (x, x) := by
  have := span_app st [] x (by simpa using h)
  rw [List.nil_append] at this
  rw [this, span_thing h]
theorem cutF_sp (ns : List Int) (k : Nat) : ∀ (m f l : Nat) (s : CS), l - f ≤ m → f ≤ l → l < w → s.ok w → s.sp w → (cutF ns k w m f l s).2.sp w ∧ spanAt w (cutF ns k w m f l s).2.st (cutF ns k w m f l s).1 = some (f, l) ∧ ∃ ext, (cutF ns k w m f l s).2.st = s.st ++ ext
  | 0, f, l, s, h1, h2, h3, h, hs => by
    have e : f = l := by omega
    subst e
    exact ⟨hs, span_thing2 _ h3, [], (List.append_nil _).symm⟩
  | m + 1, f, l, s, h1, h2, h3, h, hs => by
    by_cases e : f = l
    · have ec : cutF ns k w (m + 1) f l s = (f, s) := by rw [cutF, if_pos e]
      rw [ec]
      subst e
      exact ⟨hs, span_thing2 _ h3, [], (List.append_nil _).symm⟩
    · cases el : look s.kv (f, l) with
      | some x =>
        have ec : cutF ns k w (m + 1) f l s = (x, s) := by rw [cutF, if_neg e, el]
        rw [ec]
        exact ⟨hs, hs.kv _ (look_mem2 el), [], (List.append_nil _).symm⟩
      | none =>
        obtain ⟨c1, c2⟩ := cutAt_lt (ns := ns) (k := k) (show f < l by omega)
        obtain ⟨a1, a2, a3, a4⟩ := cutF_ok ns k w m f (cutAt ns k f l) s (by omega) c1 (by omega) h
        obtain ⟨b1, b2, b3, b4⟩ := cutF_ok ns k w m (cutAt ns k f l + 1) l (cutF ns k w m f (cutAt ns k f l) s).2 (by omega) (by omega) h3 a1
        obtain ⟨d1, d2, x1, d3⟩ := cutF_sp ns k m f (cutAt ns k f l) s (by omega) c1 (by omega) h hs
        obtain ⟨f1, f2, x2, f3⟩ := cutF_sp ns k m (cutAt ns k f l + 1) l (cutF ns k w m f (cutAt ns k f l) s).2 (by omega) (by omega) h3 a1 d1
        rw [cutF_none e el]
        revert b1 b2 b3 b4 f1 f2 f3
        generalize cutF ns k w m (cutAt ns k f l + 1) l (cutF ns k w m f (cutAt ns k f l) s).2 = B
        revert a1 a2 a3 a4 d1 d2 d3
        generalize cutF ns k w m f (cutAt ns k f l) s = A
        intro a1 a2 a3 a4 d1 d2 d3 b1 b2 b3 b4 f1 f2 f3
        have eL : (cutS w f l A.1 B).2.st = B.2.st ++ [(A.1, B.1)] := rfl
        have sA : spanAt w B.2.st A.1 = some (f, cutAt ns k f l) := by rw [f3, span_app x2 _ _ a2]; exact d2
        have sN : spanAt w (B.2.st ++ [(A.1, B.1)]) (w + B.2.st.length) = some (f, l) := by
          rw [span_new]
          show joinS (spanAt w B.2.st A.1) (spanAt w B.2.st B.1) = _
          rw [sA, f2, joinS, if_pos rfl]
        refine ⟨⟨fun x hx => ?_, fun q hq => ?_⟩, sN, x1 ++ x2 ++ [(A.1, B.1)], ?_⟩
        · rw [eL] at hx ⊢
          rcases new_or hx with hx | hx
          · rw [span_old hx]; exact f1.all x hx
          · rw [hx, sN]; exact fun z => nomatch z
        · rw [eL]
          have hq : q ∈ put B.2.kv (f, l) (w + B.2.st.length) := hq
          rcases put_mem2 hq with hq | hq
          · rw [span_old (b1.kv q hq)]; exact f1.kv q hq
          · rw [hq]; exact sN
        · rw [eL, f3, d3, List.append_assoc, List.append_assoc, List.append_assoc]
end
theorem right_spans {ns : List Int} {k most : Nat} (h : 1 ≤ most) (x : Nat) (hx : x < (rightN ns k most).wide + (rightN ns k most).steps.length) : spanAt (rightN ns k most).wide (rightN ns k most).steps x ≠ none := by
  have hw := (rWide_le (ns := ns) (k := k) h).2
  have z := fold_inv (rStep ns k most) (fun i s => i ≤ rWide ns k most → s.ok (rWide ns k most) ∧ s.sp (rWide ns k most)) (List.range (rWide ns k most)) (b0 := ⟨[], []⟩) (fun _ => ⟨⟨(fun j p e => by simp at e), (fun q hq => nomatch hq), Nat.le_refl _⟩, ⟨fun x hx => by
      have hx : x < rWide ns k most := by simpa using hx
      show spanAt (rWide ns k most) [] x ≠ none
      rw [span_thing hx]
      exact fun z => (nomatch z), fun q hq => nomatch hq⟩⟩) fun i a s ha hP hi => by
    obtain ⟨hk, hj⟩ := List.getElem?_eq_some_iff.mp ha
    rw [List.length_range] at hk
    rw [List.getElem_range] at hj
    subst hj
    obtain ⟨p1, p2⟩ := hP (by omega)
    obtain ⟨c1, _, _, _⟩ := cutF_ok ns (k + 1) (rWide ns k most) most 0 i s (by omega) (Nat.zero_le _) hk p1
    obtain ⟨c2, _, _⟩ := cutF_sp ns (k + 1) most 0 i s (by omega) (Nat.zero_le _) hk p1 p2
    exact ⟨c1, c2⟩
  rw [List.length_range] at z
  exact (z (Nat.le_refl _)).2.all x hx
end Sm

namespace Wk
open PySem PySem.Spec PyProof.Rows L2 DL Sm
/-- the classes of errors, and what isinstance says of one of them -/
structure RefF (K : PySem.W.Frag) (mg : Str → Option Value) (c : Addr) (j : Nat) : Prop where
  lt : j < 5
  E : ExcC K c
  ex : ∃ cK cN cR cT cW : Addr, (mg "BadKind" = some (.ref cK) ∧ mg "BadNet" = some (.ref cN) ∧ mg "BadRow" = some (.ref cR) ∧ mg "BadText" = some (.ref cT) ∧ mg "Wrong" = some (.ref cW)) ∧
    PySem.W.kitOne K (.ref c) (.ref cK) = some (decide (j = 0)) ∧ PySem.W.kitOne K (.ref c) (.ref cN) = some (decide (j = 1)) ∧ PySem.W.kitOne K (.ref c) (.ref cR) = some (decide (j = 2)) ∧ PySem.W.kitOne K (.ref c) (.ref cT) = some (decide (j = 3)) ∧ PySem.W.kitOne K (.ref c) (.ref cW) = some (decide (j = 4))
  v : PySem.W.kitOne K (.ref c) (.type "ValueError") = some true
def refS : List Str := ["kind", "net", "row", "text", "not"]
def kinds5 (j : Nat) : List Bool := [decide (j = 0), decide (j = 1), decide (j = 2)] ++ [decide (j = 3), decide (j = 4)]
theorem kinds_ok : ∀ j, j < 5 → (kinds5 j).count true = 1 ∧ (kinds5 j)[j]? = some true ∧ (∀ m z, m < j → (kinds5 j)[m]? = some z → z = false) ∧ ([D.str "kind", .str "net", .str "row", .str "text", .str "not"] : List D).getD j .non = .str (refS.getD j "")
  | 0, _ => ⟨by decide, rfl, fun m z h => absurd h (Nat.not_lt_zero _), rfl⟩
  | 1, _ => ⟨by decide, rfl, fun m z h e => by
      match m, h with
      | 0, _ => exact (Option.some.inj e).symm, rfl⟩
  | 2, _ => ⟨by decide, rfl, fun m z h e => by
      match m, h with
      | 0, _ => exact (Option.some.inj e).symm
      | 1, _ => exact (Option.some.inj e).symm, rfl⟩
  | 3, _ => ⟨by decide, rfl, fun m z h e => by
      match m, h with
      | 0, _ => exact (Option.some.inj e).symm
      | 1, _ => exact (Option.some.inj e).symm
      | 2, _ => exact (Option.some.inj e).symm, rfl⟩
  | 4, _ => ⟨by decide, rfl, fun m z h e => by
      match m, h with
      | 0, _ => exact (Option.some.inj e).symm
      | 1, _ => exact (Option.some.inj e).symm
      | 2, _ => exact (Option.some.inj e).symm
      | 3, _ => exact (Option.some.inj e).symm, rfl⟩
section
variable {Pg : Program} {w : World} {K : PySem.W.Frag} {mg : Str → Option Value} {base : Heap}
abbrev sRefusal : Stmt := topS 31
theorem scRefusal : FnScope ["_law_kept", "_law_kinds"] ["_law_kept"] (defScope sRefusal) := ⟨rfl, rfl, rfl, by decide +kernel, rfl, by decide +kernel, by decide +kernel⟩
def preRefusal (K : PySem.W.Frag) (mg : Str → Option Value) : List D → Res → Prop := fun ds r => ∃ (c : Addr) (j : Nat), RefF K mg c j ∧ ds = [.exc c] ∧ r = .ok (.str (refS.getD j ""))
theorem fn_refusal {f : Addr} {fd : FuncData} (F : Fun K "_law_refusal" "_law_refusal" sRefusal f fd) (hb : Binds K fd ["_law_kept"] []) (hm : mg "_law_refusal" = some (.ref f)) (T : Bt mg) : Fn Pg w K mg base "_law_refusal" 1 1 (preRefusal K mg) := by
  refine fn_ok (ps := ["_law_kept"]) F scRefusal hb hm (fun ds r ⟨c, j, _, h, _⟩ => by rw [h]; rfl) (by decide) fun cdv A outer s H E C ds r h => ?_
  obtain ⟨c, j, R, rfl, rfl⟩ := h
  obtain ⟨cK, cN, cR, cT, cW, ⟨gK, gN, gR, gT, gW⟩, k0, k1, k2, k3, k4⟩ := R.ex
  obtain ⟨q1, q2, q3, q4⟩ := kinds_ok j R.lt
  show JB _ _ _ ⟨[.d (.exc c), .u], []⟩ _
  refine jb_cons (js_if (jt_cmp C (je_var 0) je_non (by walk_at "c")) (fun hb => ?_) (fun hb => ?_))
  · cases hb
  refine jb_nil ?_
  refine jb_cons (js_set 1 C (je_f (jf_lst (jd_cons (je_isinst T.isinstance (je_var 0) (pe_glob (v := .ref cK) rfl gK rfl) (.own _) (.exc R.E k0)) (jd_cons (je_isinst T.isinstance (je_var 0) (pe_glob (v := .ref cN) rfl gN rfl) (.own _) (.exc R.E k1)) (jd_cons (je_isinst T.isinstance (je_var 0) (pe_glob (v := .ref cR) rfl gR rfl) (.own _) (.exc R.E k2)) jd_nil))))) ?_)
  refine jb_cons (js_set 1 C (je_as (je_f (jf_cat (je_var 1) (je_f (jf_lst (jd_cons (je_isinst T.isinstance (je_var 0) (pe_glob (v := .ref cT) rfl gT rfl) (.own _) (.exc R.E k3)) (jd_cons (je_isinst T.isinstance (je_var 0) (pe_glob (v := .ref cW) rfl gW rfl) (.own _) (.exc R.E k4)) jd_nil)))) (by exact Nat.le_of_ble_eq_true rfl))) (show _ = D.lst ((kinds5 j).map .bl) from rfl)) ?_)
  refine jb_cons (js_if (jt_w (jw_or (jt_cmp C (je_countB (je_var 1) je_bl) je_int (by walk_at "c")) (jw_or1 (jt_not (jt_val (je_isinst T.isinstance (je_var 0) (pe_bltn (v := .ty "ValueError") rfl T.VE (by decide +kernel) rfl) (.ty _) (.exc R.E R.v))))))) (fun hb => ?_) (fun hb => ?_))
  · rw [q1] at hb
    cases hb
  refine jb_nil ?_
  refine jb_cons (js_ret (je_ix (je_f (jf_lst (jd_cons je_str (jd_cons je_str (jd_cons je_str (jd_cons je_str (jd_cons je_str jd_nil))))))) (je_index (n := 0) (j := j) (z := .bl true) C (je_var 1) je_bl (by decide) (fun x hx => by obtain ⟨b, _, rfl⟩ := List.mem_map.mp hx; exact True.intro) True.intro (by rw [List.getElem?_map, q2]; rfl) rfl (fun m z' hm hz => by rw [List.getElem?_map] at hz; cases e : (kinds5 j)[m]? with | none => rw [e] at hz; cases hz | some b => rw [e] at hz; cases hz; rw [q3 m b hm e]; rfl)) (ix_disp (ds := [D.str "kind", .str "net", .str "row", .str "text", .str "not"]) R.lt)) ?_)
  show Res.ok _ = Res.ok _
  rw [q4]
end
end Wk

namespace Wk
open PySem PySem.Spec PyProof.Rows L2 DL Sm
section
variable {Pg : Program} {w : World} {K : PySem.W.Frag} {mg : Str → Option Value} {base : Heap}
abbrev sWhole : Stmt := topS 25
theorem scWhole : FnScope ["_law_found"] ["_law_found"] (defScope sWhole) := ⟨rfl, rfl, rfl, by decide +kernel, rfl, by decide +kernel, by decide +kernel⟩
def preWhole : List D → Res → Prop := fun ds r => ∃ i : Int, ds = [.int i] ∧ r = .ok (.bl true)
theorem fn_whole {f : Addr} {fd : FuncData} (F : Fun K "_law_whole" "_law_whole" sWhole f fd) (hb : Binds K fd ["_law_found"] []) (hm : mg "_law_whole" = some (.ref f)) (T : Bt mg) : Fn Pg w K mg base "_law_whole" 1 1 preWhole := by
  refine fn_ok (ps := ["_law_found"]) F scWhole hb hm (fun ds r ⟨i, h, _⟩ => by rw [h]; rfl) (by decide) fun cdv A outer s H E C ds r h => ?_
  obtain ⟨i, rfl, rfl⟩ := h
  show JB _ _ _ ⟨[.d (.int i)], []⟩ _
  exact jb_cons (js_ret (je_and (je_isinst T.isinstance (je_var 0) (pe_bltn (v := .ty "int") rfl T.int (by decide +kernel) rfl) (.ty _) (.int (b := true) (kit_ty (by decide +kernel)))) (fun _ => je_one (je_not (je_isinst T.isinstance (je_var 0) (pe_bltn (v := .ty "bool") rfl T.bool (by decide +kernel) rfl) (.ty _) (.int (b := false) (kit_ty (by decide +kernel)))))) (fun z => nomatch z)) rfl)
end
end Wk

namespace Wk
open PySem PySem.Spec PyProof.Rows L2 DL Sm
section
variable {Pg : Program} {w : World} {K : PySem.W.Frag} {mg : Str → Option Value} {base : Heap}
abbrev sNet : Stmt := topS 26
theorem scNet : FnScope ["_law_script", "_law_k", "_law_most", "_law_wide", "_law_steps", "_law_j", "_law_number", "_law_other", "_law_one", "_law_outs"] ["_law_script", "_law_k", "_law_most"] (defScope sNet) := ⟨rfl, rfl, rfl, by decide +kernel, rfl, by decide +kernel, by decide +kernel⟩
def preNet : List D → Res → Prop := fun ds r => ∃ (ns : List Int) (k most : Nat), ds = [.scr ns, .int k, .int most] ∧ 1 ≤ most ∧ most ≤ 64 ∧ r = .ok (netN ns k most).e
theorem fn_net {f : Addr} {fd : FuncData} (F : Fun K "_law_net" "_law_net" sNet f fd) (hb : Binds K fd ["_law_script", "_law_k", "_law_most"] []) (hm : mg "_law_net" = some (.ref f)) (T : Bt mg) (F_law_mix : Fn Pg w K mg base "_law_mix" 2 2 preMix) : Fn Pg w K mg base "_law_net" 3 3 preNet := by
  refine fn_ok (ps := ["_law_script", "_law_k", "_law_most"]) F scNet hb hm (fun ds r ⟨ns, k, m, h, _⟩ => by rw [h]; rfl) (by decide) fun cdv A outer s H E C ds r h => ?_
  obtain ⟨ns, k, most, rfl, m1, m2, rfl⟩ := h
  obtain ⟨w1, w2⟩ := wideN_le (ns := ns) (k := k) m1
  show JB _ _ _ ⟨[.d (.scr ns), .d (.int k), .d (.int most), .u, .u, .u, .u, .u, .u, .u], []⟩ _
  refine jb_cons (js_set 3 C (je_as (je_bin je_int (je_bin (je_call C F_law_mix (by decide) (jd_cons (je_var 0) (jd_cons (je_var 1) jd_nil)) ⟨ns, k, rfl, rfl⟩) (je_var 2) (by walk_at "b")) (by walk_at "b")) (show D.int _ = .int (wideN ns k most : Nat) from rfl)) ?_)
  refine jb_cons (js_new 4 C (jf_lst jd_nil) ?_)
  have q9 := Nat.mod_lt (mixN ns (k + 1)) (show 9 > 0 by decide)
  refine jb_cons (js_fold (List.range (mixN ns (k + 1) % 9)) (fun b j => b ++ [stepN ns k (wideN ns k most) j]) [] (fun b => ⟨[.d (.scr ns), .d (.int k), .d (.int most), .d (.int (wideN ns k most : Nat)), .c 0, .u, .u, .u, .u, .u], [.lst (b.map eP)]⟩) (fun i b => b.length = i) C (ji_range1 T.range (n := mixN ns (k + 1) % 9) (je_bin (je_call C F_law_mix (by decide) (jd_cons (je_var 0) (jd_cons (je_bin (je_var 1) je_int (by walk_at "b")) jd_nil)) ⟨ns, k + 1, rfl, rfl⟩) je_int (by walk_at "b")) (by omega)) rfl ?_ ?_)
  · intro i j b ha _ hQ
    obtain ⟨hj, hj2⟩ := List.getElem?_eq_some_iff.mp ha
    rw [List.length_range] at hj
    rw [List.getElem_range] at hj2
    subst hj2
    refine jg_name 5 C.nd ?_
    refine jb_cons (js_set 6 C (je_as (je_call C F_law_mix (by decide) (jd_cons (je_var 0) (jd_cons (je_bin (je_bin (je_var 1) je_int (by walk_at "b")) (je_var 5) (by walk_at "b")) jd_nil)) ⟨ns, k + 2 + i, rfl, rfl⟩) (show D.int _ = .int (mixN ns (k + 2 + i) : Nat) from rfl)) ?_)
    refine jb_cons (js_set 7 C (je_as (je_bin (je_bin (je_var 6) je_int (by walk_at "b")) (je_bin (je_var 3) (je_var 5) (by walk_at "b")) (.modI (by omega))) (show D.int _ = .int (mixN ns (k + 2 + i) / 64 % (wideN ns k most + i) : Nat) from rfl)) ?_)
    have q4 : mixN ns (k + 2 + i) / 4096 % 4 < 4 := Nat.mod_lt _ (by decide)
    have hx : IxD (.lst [.int ((mixN ns (k + 2 + i) / 64 % (wideN ns k most + i) - 1 : Nat) : Int), .int ((mixN ns (k + 2 + i) % (wideN ns k most + i) : Nat) : Int), .int ((mixN ns (k + 2 + i) / 64 % (wideN ns k most + i) : Nat) : Int), .int ((wideN ns k most + i - 1 : Nat) : Int)]) (.int ((mixN ns (k + 2 + i) / 4096 % 4 : Nat) : Int)) (eN (stepN ns k (wideN ns k most) i).1) :=
      ix_lst eN (l := [mixN ns (k + 2 + i) / 64 % (wideN ns k most + i) - 1, mixN ns (k + 2 + i) % (wideN ns k most + i), mixN ns (k + 2 + i) / 64 % (wideN ns k most + i), wideN ns k most + i - 1]) 0 q4
    refine jb_cons (js_set 8 C (je_ix (je_f (jf_lst (jd_cons (je_as (je_max2 C T.max je_int (je_bin (je_var 7) je_int (by walk_at "b"))) ?e1) (jd_cons (je_as (je_bin (je_var 6) (je_bin (je_var 3) (je_var 5) (by walk_at "b")) (.modI (by omega))) ?e2) (jd_cons (je_var 7) (jd_cons (je_as (je_bin (je_bin (je_var 3) (je_var 5) (by walk_at "b")) je_int (by walk_at "b")) ?e3) jd_nil)))))) (je_as (je_bin (je_bin (je_var 6) je_int (by walk_at "b")) je_int (by walk_at "b")) ?e4) hx) ?_)
    case e1 => congr 1; omega
    case e2 => rfl
    case e3 => congr 1; omega
    case e4 => rfl
    refine jb_cons (js_app 4 0 (je_tup (jd_cons (je_var 8) (jd_cons (je_var 7) jd_nil))) ?_ ?_)
    · rw [List.length_map, sizeLine_eq]; omega
    refine jb_fin (t := ⟨[.d (.scr ns), .d (.int k), .d (.int most), .d (.int (wideN ns k most : Nat)), .c 0, .u, .u, .u, .u, .u], [.lst ((b ++ [stepN ns k (wideN ns k most) i]).map eP)]⟩) ⟨rfl, ?_⟩ ?_
    · rw [List.length_append, hQ]; rfl
    · rw [List.map_append]; rfl
  · intro _
    have e : (List.range (mixN ns (k + 1) % 9)).foldl (fun b j => b ++ [stepN ns k (wideN ns k most) j]) [] = stepsN ns k most := by
      rw [foldl_snoc]; rfl
    rw [e]
    refine jb_freeze 4 0 ?_
    have hl : (List.range (wideN ns k most)).length ≤ sizeLine := by rw [List.length_range, sizeLine_eq]; omega
    have hl2 := stepsN_len ns k most
    refine jb_cons (js_setLc 9 C (lc_as (lc_map (f := fun j : Nat => eN (mixN ns (k + 12 + j) % (wideN ns k most + (stepsN ns k most).length))) 5 (List.range (wideN ns k most)) C (ji_range1 T.range (je_var 3) (by omega)) (fun j _ _ _ _ _ _ C => je_as (je_bin (je_call C F_law_mix (by decide) (jd_cons (je_var 0) (jd_cons (je_bin (je_bin (je_var 1) je_int (by walk_at "b")) (je_var 5) (by walk_at "b")) jd_nil)) ⟨ns, k + 12 + j, rfl, rfl⟩) (je_bin (je_var 3) (je_len T.len (je_var 4) (by walk_at "len")) (by walk_at "b")) (.modI (by omega))) (by rw [List.length_map]; rfl))) (show _ = (outsN ns k most).map eN by rw [outsN, List.map_map]; rfl)) ?_)
    exact jb_cons (js_ret (je_tup (jd_cons (je_var 3) (jd_cons (je_var 4) (jd_cons (je_var 9) jd_nil)))) rfl)
end
end Wk

namespace Wk
open PySem PySem.Spec PyProof.Rows L2 DL Sm
section
variable {Pg : Program} {w : World} {K : PySem.W.Frag} {mg : Str → Option Value} {base : Heap}
abbrev sCounts : Stmt := topS 17
theorem scCounts : FnScope ["net", "found", "thing", "one", "other", "k"] ["net"] (defScope sCounts) := ⟨rfl, rfl, rfl, by decide +kernel, rfl, by decide +kernel, by decide +kernel⟩
theorem fn_counts {f : Addr} {fd : FuncData} (F : Fun K "counts" "counts" sCounts f fd) (hb : Binds K fd ["net"] []) (hm : mg "counts" = some (.ref f)) (T : Bt mg) {cN : Addr} (Flook_net : Fn Pg w K mg base "look_net" 1 1 (pre3 cN)) : Fn Pg w K mg base "counts" 1 2 (preG fun n => .lst (n.cnts.map eL)) := by
  refine fn_ok (ps := ["net"]) F scCounts hb hm (fun ds r ⟨n, _, h, _⟩ => by rw [h]; rfl) (by decide) fun cdv A outer s H E C ds r h => ?_
  obtain ⟨n, hg, rfl, rfl⟩ := h
  have g1 := hg.w1; have g2 := hg.w2; have g3 := hg.ls
  show JB _ _ _ ⟨[.d n.e, .u, .u, .u, .u, .u], []⟩ _
  refine jb_cons (js_expr (je_call C Flook_net (by decide) (jd_cons (je_var 0) jd_nil) (preLook_to (.inl ⟨n, hg, rfl, rfl⟩))) ?_)
  refine jb_cons (js_new 1 C (jf_lst jd_nil) ?_)
  have hl : (List.range n.wide).length ≤ sizeLine := by rw [List.length_range, sizeLine_eq]; omega
  refine jb_cons (js_fold (List.range n.wide) (fun b t => b ++ [unitN n.wide t]) [] (fun b => ⟨[.d n.e, .c 0, .u, .u, .u, .u], [.lst (b.map eL)]⟩) (fun i b => b.length = i) C (ji_range1 T.range (je_ix (je_var 0) je_int (by walk_at "i")) (by omega)) rfl ?_ ?_)
  · intro i t b ha _ hQ
    have hi := (List.getElem?_eq_some_iff.mp ha).1
    rw [List.length_range] at hi
    refine jg_name 2 C.nd ?_
    refine jb_cons (js_app 1 0 (je_as (je_f (jf_lc C (lc_map (f := fun one : Nat => eN (if one = t then 1 else 0)) 3 (List.range n.wide) C (ji_range1 T.range (je_ix (je_var 0) je_int (by walk_at "i")) (by omega)) (fun a ha _ _ _ _ _ C => (je_as (je_intB T.int (je_cmp C (je_var 3) (je_var 2) (by walk_at "c"))) ?e1))))) (show _ = eL (unitN n.wide t) by rw [eL, unitN, List.map_map]; rfl)) ?_ ?_)
    case e1 =>
      rw [b2i_eN]
      congr 1
      by_cases q : a = t
      · rw [if_pos q, q]; simp
      · have : ¬ (a : Int) = (t : Int) := by omega
        rw [if_neg q]; simp [this]
    · rw [List.length_map, sizeLine_eq]; omega
    refine jb_fin (t := ⟨[.d n.e, .c 0, .u, .u, .u, .u], [.lst ((b ++ [unitN n.wide t]).map eL)]⟩) ⟨rfl, ?_⟩ ?_
    · rw [List.length_append, hQ]; rfl
    · rw [List.map_append]; rfl
  intro _
  rw [foldl_snoc, List.nil_append]
  refine jb_cons (js_fold n.steps (cntF n.wide) (cnts0 n.wide) (fun b => ⟨[.d n.e, .c 0, .u, .u, .u, .u], [.lst (b.map eL)]⟩) (fun i b => b.length = n.wide + i ∧ ∀ r ∈ b, r.length = n.wide) C (ji_list (je_ix (je_var 0) je_int (by walk_at "i"))) ⟨by rw [cnts0, List.length_map, List.length_range]; rfl, cnts0_row _⟩ ?_ ?_)
  · intro i p b ha _ hQ
    obtain ⟨hQ, hrow⟩ := hQ
    have hi := (List.getElem?_eq_some_iff.mp ha).1
    have hst := hg.st i p ha
    refine jg_n2 3 4 C ?_
    have r1 : (b.getD p.1 []).length = n.wide := hrow _ (getD_mem [] (by omega))
    have r2 : (b.getD p.2 []).length = n.wide := hrow _ (getD_mem [] (by omega))
    have x1 : IxD (.lst (b.map eL)) (.int (p.1 : Nat)) (eL (b.getD p.1 [])) := ix_lst eL [] (by omega)
    have x2 : IxD (.lst (b.map eL)) (.int (p.2 : Nat)) (eL (b.getD p.2 [])) := ix_lst eL [] (by omega)
    refine jb_cons (js_app 1 0 (je_as (je_f (jf_lc C (lc_map (f := fun k : Nat => eN ((b.getD p.1 []).getD k 0 + (b.getD p.2 []).getD k 0)) 5 (List.range n.wide) C (ji_range1 T.range (je_ix (je_var 0) je_int (by walk_at "i")) (by omega)) (fun a ha _ _ _ _ _ C => (je_view (je_bin (je_ix (je_ix (je_var 1) (je_var 3) x1) (je_var 5) (ix_lst eN 0 (by rw [r1]; exact List.mem_range.mp ha))) (je_ix (je_ix (je_var 1) (je_var 4) x2) (je_var 5) (ix_lst eN 0 (by rw [r2]; exact List.mem_range.mp ha))) .addI)))))) (show _ = eL (addR n.wide (b.getD p.1 []) (b.getD p.2 [])) by rw [eL, addR, List.map_map]; rfl)) ?_ ?_)
    · rw [List.length_map, sizeLine_eq]; omega
    refine jb_fin (t := ⟨[.d n.e, .c 0, .u, .u, .u, .u], [.lst ((cntF n.wide b p).map eL)]⟩) ⟨rfl, ?_, ?_⟩ ?_
    · rw [cntF, List.length_append, hQ]; rfl
    · exact cntF_row n.wide [p] b hrow
    · rw [cntF, List.map_append]; rfl
  · intro _
    refine jb_freeze 1 0 ?_
    exact jb_cons (js_ret (je_var 1) rfl)
abbrev sSpans : Stmt := topS 19
theorem scSpans : FnScope ["net", "thing", "found", "one", "other", "first", "second"] ["net"] (defScope sSpans) := ⟨rfl, rfl, rfl, by decide +kernel, rfl, by decide +kernel, by decide +kernel⟩
theorem fn_spans {f : Addr} {fd : FuncData} (F : Fun K "spans_of" "spans_of" sSpans f fd) (hb : Binds K fd ["net"] []) (hm : mg "spans_of" = some (.ref f)) (T : Bt mg) : Fn Pg w K mg base "spans_of" 1 1 (preG fun n => .lst (n.spans.map eO)) := by
  refine fn_ok (ps := ["net"]) F scSpans hb hm (fun ds r ⟨n, _, h, _⟩ => by rw [h]; rfl) (by decide) fun cdv A outer s H E C ds r h => ?_
  obtain ⟨n, hg, rfl, rfl⟩ := h
  have g1 := hg.w1; have g2 := hg.w2; have g3 := hg.ls
  show JB _ _ _ ⟨[.d n.e, .u, .u, .u, .u, .u, .u], []⟩ _
  have hl : (List.range n.wide).length ≤ sizeLine := by rw [List.length_range, sizeLine_eq]; omega
  refine jb_cons (js_newLc 2 C (lc_as (lc_map (f := fun x : Nat => eP (x, x)) 1 (List.range n.wide) C (ji_range1 T.range (je_ix (je_var 0) je_int (by walk_at "i")) (by omega)) (fun a ha _ _ _ _ _ C => (je_tup (jd_cons (je_var 1) (jd_cons (je_var 1) jd_nil))))) (show _ = (spans0 n.wide).map eO by rw [spans0, List.map_map]; rfl)) ?_)
  refine jb_cons (js_fold n.steps spF (spans0 n.wide) (fun b => ⟨[.d n.e, .u, .c 0, .u, .u, .u, .u], [.lst (b.map eO)]⟩) (fun i b => b.length = n.wide + i) C (ji_list (je_ix (je_var 0) je_int (by walk_at "i"))) (by rw [spans0, List.length_map, List.length_range]; rfl) ?_ ?_)
  · intro i p b ha _ hQ
    have hi := (List.getElem?_eq_some_iff.mp ha).1
    have hst := hg.st i p ha
    refine jg_n2 3 4 C ?_
    have x1 : IxD (.lst (b.map eO)) (.int (p.1 : Nat)) (eO (b.getD p.1 none)) := ix_lst eO none (by omega)
    have x2 : IxD (.lst (b.map eO)) (.int (p.2 : Nat)) (eO (b.getD p.2 none)) := ix_lst eO none (by omega)
    have n1 : D.nol (eO (b.getD p.1 none)) = true := by cases b.getD p.1 none <;> rfl
    have n2 : D.nol (eO (b.getD p.2 none)) = true := by cases b.getD p.2 none <;> rfl
    have fin : ∀ d, d = eO (joinS (b.getD p.1 none) (b.getD p.2 none)) → (⟨[.d n.e, .u, .c 0, .d (eN p.1), .d (eN p.2), .d (eO (b.getD p.1 none)), .d (eO (b.getD p.2 none))], [.lst (b.map eO ++ [d])]⟩ : DL.A) = ⟨[.d n.e, .u, .c 0, .d (eN p.1), .d (eN p.2), .d (eO (b.getD p.1 none)), .d (eO (b.getD p.2 none))], [.lst ((spF b p).map eO)]⟩ := fun d e => by rw [e, spF, List.map_append]; rfl
    refine jb_cons (js_par 5 6 C (jd_cons (je_view (je_ix (je_var 2) (je_var 3) x1) n1) (jd_cons (je_view (je_ix (je_var 2) (je_var 4) x2) n2) jd_nil)) ?_)
    have hlen : (b.map eO).length < sizeLine := by rw [List.length_map, sizeLine_eq]; omega
    refine jb_cut (fun s' => s' = ⟨[.d n.e, .u, .c 0, .d (eN p.1), .d (eN p.2), .d (eO (b.getD p.1 none)), .d (eO (b.getD p.2 none))], [.lst ((spF b p).map eO)]⟩) ?_ (fun s' hs' => ?_)
    · revert fin
      generalize b.getD p.1 none = o1
      generalize b.getD p.2 none = o2
      intro fin
      cases o1 with
      | none =>
        refine js_if (β := true) (jt_as (jt_w (jw_orC (jt_cmp C (je_var 5) je_non (by walk_at "c")) (β2 := true) (fun z => absurd z (by decide)))) rfl) (fun _ => ?_) (fun z => nomatch z)
        exact jb_cons (js_app 2 0 je_non hlen (jb_nil (fin .non rfl)))
      | some a => cases o2 with
        | none =>
          refine js_if (β := true) (jt_as (jt_w (jw_or (jt_cmp C (je_var 5) je_non (by walk_at "c")) (jw_orC (jt_cmp C (je_var 6) je_non (by walk_at "c")) (β2 := true) (fun z => absurd z (by decide))))) rfl) (fun _ => ?_) (fun z => nomatch z)
          exact jb_cons (js_app 2 0 je_non hlen (jb_nil (fin .non rfl)))
        | some c =>
          refine js_if (jt_w (jw_or (jt_cmp C (je_var 5) je_non (by walk_at "c")) (jw_or (jt_cmp C (je_var 6) je_non (by walk_at "c")) (jw_or1 (jt_cmp C (je_bin (je_ix (je_var 5) je_int (by walk_at "i")) je_int (by walk_at "b")) (je_ix (je_var 6) je_int (by walk_at "i")) (by walk_at "c")))))) (fun hb => ?_) (fun hb => ?_)
          · have hb : (!decide ((a.2 : Int) + 1 = (c.1 : Int))) = true := hb
            have h := bnot_dec hb
            exact jb_cons (js_app 2 0 je_non hlen (jb_nil (fin .non (by rw [joinS, if_neg (by omega)]; rfl))))
          · have hb : (!decide ((a.2 : Int) + 1 = (c.1 : Int))) = false := hb
            have h := bnot_decF hb
            exact jb_cons (js_app 2 0 (je_tup (jd_cons (je_ix (je_var 5) je_int (by walk_at "i")) (jd_cons (je_ix (je_var 6) je_int (by walk_at "i")) jd_nil))) hlen (jb_nil (fin (.tup [.int a.1, .int c.2]) (by rw [joinS, if_pos (by omega)]; rfl))))
    · subst hs'
      refine jb_fin (t := ⟨[.d n.e, .u, .c 0, .u, .u, .u, .u], [.lst ((spF b p).map eO)]⟩) ⟨rfl, ?_⟩
      rw [spF, List.length_append, hQ]; rfl
  · intro _
    refine jb_freeze 2 0 ?_
    exact jb_cons (js_ret (je_var 2) rfl)
end
end Wk

namespace Wk
open PySem PySem.Spec PyProof.Rows L2 DL Sm
section
variable {Pg : Program} {w : World} {K : PySem.W.Frag} {mg : Str → Option Value} {base : Heap}
abbrev sWrong : Stmt := topS 18
theorem scWrong : FnScope ["net", "kind", "some", "spans", "k", "here", "thing", "one"] ["net", "kind"] (defScope sWrong) := ⟨rfl, rfl, rfl, by decide +kernel, rfl, by decide +kernel, by decide +kernel⟩
def oD : Option Nat → D
  | none => .non
  | some k => eN k
def preWrong : List D → Res → Prop := fun ds r => ∃ (n : Nt) (s : Str), n.good ∧ ds = [n.e, .str s] ∧ r = .ok (oD (wrongN n s))
theorem fn_wrong {f : Addr} {fd : FuncData} (F : Fun K "wrong_out" "wrong_out" sWrong f fd) (hb : Binds K fd ["net", "kind"] []) (hm : mg "wrong_out" = some (.ref f)) (T : Bt mg) (Fcounts : Fn Pg w K mg base "counts" 1 2 (preG fun n => .lst (n.cnts.map eL))) (Fspans_of : Fn Pg w K mg base "spans_of" 1 1 (preG fun n => .lst (n.spans.map eO))) : Fn Pg w K mg base "wrong_out" 2 3 preWrong := by
  refine fn_ok (ps := ["net", "kind"]) F scWrong hb hm (fun ds r ⟨n, s, _, h, _⟩ => by rw [h]; rfl) (by decide) fun cdv A outer s H E C ds r h => ?_
  obtain ⟨n, kd, hg, rfl, rfl⟩ := h
  have g1 := hg.w1; have g2 := hg.w2; have g3 := hg.ls; have g4 := hg.lo
  show JB _ _ _ ⟨[.d n.e, .d (.str kd), .u, .u, .u, .u, .u, .u], []⟩ _
  refine jb_cons (js_set 2 C (je_call C Fcounts (by decide) (jd_cons (je_var 0) jd_nil) ⟨n, hg, rfl, rfl⟩) ?_)
  refine jb_cons (js_set 3 C (je_call C Fspans_of (by decide) (jd_cons (je_var 0) jd_nil) ⟨n, hg, rfl, rfl⟩) ?_)
  have hl : (List.range n.wide).length ≤ sizeLine := by rw [List.length_range, sizeLine_eq]; omega
  refine jb_cons (js_for (fun i s' => (∀ j, j < i → badOut n kd j = false) ∧ s' = ⟨[.d n.e, .d (.str kd), .d (.lst (n.cnts.map eL)), .d (.lst (n.spans.map eO)), .u, .u, .u, .u], []⟩) C (ji_range1 T.range (n := n.wide) (je_ix (je_var 0) je_int (by walk_at "i")) (by omega)) ⟨fun _ h => absurd h (Nat.not_lt_zero _), rfl⟩ ?_ ?_)
  · rintro i d s' hd ⟨h1, rfl⟩
    obtain ⟨hi, rfl⟩ := rng_get hd
    have ho : n.outs.getD i 0 < n.wide + n.steps.length := hg.os _ (getD_mem 0 (by omega))
    have x0 : IxD (.lst (n.outs.map eN)) (.int (i : Nat)) (eN (n.outs.getD i 0)) := ix_lst eN 0 (by omega)
    have x1 : IxD (.lst (n.cnts.map eL)) (eN (n.outs.getD i 0)) (eL (n.cnts.getD (n.outs.getD i 0) [])) := ix_lst eL [] (by rw [n.cnts_len]; exact ho)
    have x2 : IxD (.lst (n.spans.map eO)) (eN (n.outs.getD i 0)) (eO (n.spans.getD (n.outs.getD i 0) none)) := ix_lst eO none (by rw [n.spans_len]; exact ho)
    have hr : (n.cnts.getD (n.outs.getD i 0) []).length = n.wide := n.cnts_row _ (getD_mem [] (by rw [n.cnts_len]; exact ho))
    have hr2 : (n.cnts.getD (n.outs.getD i 0) []).length ≤ sizeLine := by rw [hr, sizeLine_eq]; omega
    have found : ∀ {β : Bool}, badOut n kd i = true → (PoR (.ok (oD (wrongN n kd)))).rt (eN i) [] := fun h => by
      show Res.ok _ = Res.ok _
      rw [wrongN, find_at hi h1 h]
      rfl
    refine jg_name 4 C.nd ?_
    refine jb_cons (js_set 5 C (je_ix (je_var 2) (je_ix (je_ix (je_var 0) je_int (by walk_at "i")) (je_var 4) x0) x1) ?_)
    refine jb_cons (js_if (jt_w (jw_and (jt_cmp C (je_var 1) je_str (by walk_at "c")) (jw_and1 (jt_as (jt_cmp C (je_ix (je_var 3) (je_ix (je_ix (je_var 0) je_int (by walk_at "i")) (je_var 4) x0) x2) (je_tup (jd_cons je_int (jd_cons (je_var 4) jd_nil))) (.ne 1 (by decide) (sh_eO 0 _) (sh_eP 0 (0, i)))) (show _ = !decide (n.spans.getD (n.outs.getD i 0) none = some (0, i)) from congrArg not (inj_eO _ (some (0, i)))))))) (fun hb => ?_) (fun hb => ?_))
    · refine jb_cons (js_ret (je_var 4) (found (β := true) ?_))
      unfold badOut
      rw [hb, Bool.true_or]
    have hb1 := hb
    refine jb_nil ?_
    refine jb_cons (js_if (jt_w (jw_and (jt_cmp C (je_var 1) je_str (by walk_at "c")) (jw_and1 (jt_as (jt_cmp C (je_var 5) (je_as (je_f (jf_lc C (lc_map (f := fun t : Nat => eN (if t ≤ i then 1 else 0)) 6 (List.range n.wide) C (ji_range1 T.range (je_ix (je_var 0) je_int (by walk_at "i")) (by omega)) (fun a ha _ _ _ _ _ C => (je_as (je_intB T.int (je_cmp C (je_var 6) (je_var 4) (by walk_at "c"))) ?e1))))) (show _ = eL (uptoN n.wide i) by rw [eL, uptoN, List.map_map]; rfl)) (.ne 1 (by decide) (sh_lst fun x _ => sh_eN 0 x) (sh_lst fun x _ => sh_eN 0 x))) (show _ = !decide (n.cnts.getD (n.outs.getD i 0) [] = uptoN n.wide i) from congrArg not (inj_eL _ _)))))) (fun hb => ?_) (fun hb => ?_))
    case e1 =>
      rw [b2i_eN]
      congr 1
      by_cases q : a ≤ i
      · have : (a : Int) ≤ (i : Int) := by omega
        rw [if_pos q]; simp [this]
      · have : ¬ (a : Int) ≤ (i : Int) := by omega
        rw [if_neg q]; simp [this]
    · refine jb_cons (js_ret (je_var 4) (found (β := true) ?_))
      unfold badOut
      rw [hb, Bool.true_or, Bool.or_true]
    have hb2 := hb
    refine jb_nil ?_
    refine jb_cons (js_if (jt_w (jw_and (jt_cmp C (je_var 1) je_str (by walk_at "c")) (jw_and1 (jt_as (jt_cmp C (je_as (je_f (jf_lc C (lc_map (f := fun x : Nat => D.bl (decide (0 < x))) 7 (n.cnts.getD (n.outs.getD i 0) []) C (ji_list (je_var 5)) (fun a ha _ _ _ _ _ C => (je_as (je_cmp C (je_var 7) je_int (by walk_at "c")) ?e2))))) (show _ = D.lst (((n.cnts.getD (n.outs.getD i 0) []).map fun x => decide (0 < x)).map .bl) by rw [List.map_map]; rfl)) (je_as (je_f (jf_lc C (lc_map (f := fun t : Nat => D.bl (decide (t ≤ i))) 6 (List.range n.wide) C (ji_range1 T.range (je_ix (je_var 0) je_int (by walk_at "i")) (by omega)) (fun a ha _ _ _ _ _ C => (je_as (je_cmp C (je_var 6) (je_var 4) (by walk_at "c")) ?e3))))) (show _ = D.lst (((List.range n.wide).map fun t => decide (t ≤ i)).map .bl) by rw [List.map_map]; rfl)) (.ne 1 (by decide) (sh_lst fun x _ => sh_bl 0 x) (sh_lst fun x _ => sh_bl 0 x))) (show _ = !decide ((n.cnts.getD (n.outs.getD i 0) []).map (fun x => decide (0 < x)) = (List.range n.wide).map fun t => decide (t ≤ i)) from congrArg not (eqv_lst inj_bl _ _)))))) (fun hb => ?_) (fun hb => ?_))
    case e2 =>
      congr 1
      rw [decide_eq_decide]
      show (0 : Int) < (a : Int) ↔ _
      omega
    case e3 =>
      congr 1
      rw [decide_eq_decide]
      show (a : Int) ≤ (i : Int) ↔ _
      omega
    · refine jb_cons (js_ret (je_var 4) (found (β := true) ?_))
      unfold badOut
      rw [hb, Bool.or_true, Bool.or_true]
    have ok : badOut n kd i = false := by
      unfold badOut
      rw [hb1, hb2, hb]
      rfl
    refine jb_nil ?_
    refine jb_fin (t := ⟨[.d n.e, .d (.str kd), .d (.lst (n.cnts.map eL)), .d (.lst (n.spans.map eO)), .u, .u, .u, .u], []⟩) ⟨fun j hj => ?_, rfl⟩
    by_cases e : j = i
    · rw [e]; exact ok
    · exact h1 j (by omega)
  · rintro s' ⟨h1, rfl⟩
    rw [List.length_map, List.length_range] at h1
    refine jb_cons (js_ret je_non ?_)
    show Res.ok _ = Res.ok _
    rw [wrongN, find_no h1]
    rfl
abbrev sBrk : Stmt := topS 20
theorem scBrk : FnScope ["net", "kind", "out", "thing", "here", "bad"] ["net", "kind", "out"] (defScope sBrk) := ⟨rfl, rfl, rfl, by decide +kernel, rfl, by decide +kernel, by decide +kernel⟩
def preBrk : List D → Res → Prop := fun ds r => ∃ (n : Nt) (s : Str) (k : Nat), n.good ∧ wrongN n s = some k ∧ ds = [n.e, .str s, .int k] ∧ r = .ok (brkN n s k)
theorem fn_brk {f : Addr} {fd : FuncData} (F : Fun K "breaking_row" "breaking_row" sBrk f fd) (hb : Binds K fd ["net", "kind", "out"] []) (hm : mg "breaking_row" = some (.ref f)) (T : Bt mg) (Fcounts : Fn Pg w K mg base "counts" 1 2 (preG fun n => .lst (n.cnts.map eL))) : Fn Pg w K mg base "breaking_row" 3 3 preBrk := by
  refine fn_ok (ps := ["net", "kind", "out"]) F scBrk hb hm (fun ds r ⟨n, s, k, _, _, h, _⟩ => by rw [h]; rfl) (by decide) fun cdv A outer s H E C ds r h => ?_
  obtain ⟨n, kd, out, hg, hw, rfl, rfl⟩ := h
  have g1 := hg.w1; have g2 := hg.w2; have g3 := hg.ls; have g4 := hg.lo
  have hout : out < n.wide := List.mem_range.mp (List.mem_of_find?_eq_some hw)
  have ho : n.outs.getD out 0 < n.wide + n.steps.length := hg.os _ (getD_mem 0 (by omega))
  have hl : (List.range n.wide).length ≤ sizeLine := by rw [List.length_range, sizeLine_eq]; omega
  show JB _ _ _ ⟨[.d n.e, .d (.str kd), .d (.int out), .u, .u, .u], []⟩ _
  refine jb_cons (js_if (jt_cmp C (je_var 1) je_str (by walk_at "c")) (fun hb => ?_) (fun hb => ?_))
  · have e : kd = "any" := of_decide_eq_true hb
    refine jb_cons (js_ret (je_f (jf_lc C (lc_map (f := fun t : Nat => D.str (thingS t)) 3 (List.range n.wide) C (ji_range1 T.range (je_ix (je_var 0) je_int (by walk_at "i")) (by omega)) (fun a ha _ _ _ _ _ C => (je_bin (je_bin je_str (je_strI T.str (je_var 3) ?l1) (.addS ?l2)) je_str (.addS ?l3)))))) ?_)
    case l1 => exact (thing_small a (by have := List.mem_range.mp ha; omega)).1
    case l2 => exact Nat.le_trans (thing_small a (by have := List.mem_range.mp ha; omega)).2.1 (by rw [sizeLine_eq]; decide)
    case l3 => exact Nat.le_trans (thing_small a (by have := List.mem_range.mp ha; omega)).2.2.1 (by rw [sizeLine_eq]; decide)
    show Res.ok _ = Res.ok _
    rw [brkN, if_pos e]
  have hany : kd ≠ "any" := of_decide_eq_false hb
  refine jb_nil ?_
  have x0 : IxD (.lst (n.outs.map eN)) (.int (out : Nat)) (eN (n.outs.getD out 0)) := ix_lst eN 0 (by omega)
  have x1 : IxD (.lst (n.cnts.map eL)) (eN (n.outs.getD out 0)) (eL (n.cnts.getD (n.outs.getD out 0) [])) := ix_lst eL [] (by rw [n.cnts_len]; exact ho)
  have hr : (n.cnts.getD (n.outs.getD out 0) []).length = n.wide := n.cnts_row _ (getD_mem [] (by rw [n.cnts_len]; exact ho))
  refine jb_cons (js_set 4 C (je_ix (je_call C Fcounts (by decide) (jd_cons (je_var 0) jd_nil) ⟨n, hg, rfl, rfl⟩) (je_ix (je_ix (je_var 0) je_int (by walk_at "i")) (je_var 2) x0) x1) ?_)
  have xt : ∀ t, t < n.wide → IxD (eL (n.cnts.getD (n.outs.getD out 0) [])) (.int (t : Nat)) (eN ((n.cnts.getD (n.outs.getD out 0) []).getD t 0)) := fun t ht => ix_lst eN 0 (by rw [hr]; exact ht)
  refine jb_cut (fun s' => s' = ⟨[.d n.e, .d (.str kd), .d (.int out), .u, .d (eL (n.cnts.getD (n.outs.getD out 0) [])), .d (eL (brkBad n kd out))], []⟩) (js_if (jt_cmp C (je_var 1) je_str (by walk_at "c")) (fun hb => ?_) (fun hb => ?_)) (fun s' hs' => ?_)
  · have e : kd = "greatest" := of_decide_eq_true hb
    refine jb_cons (js_set 5 C (je_f (jf_lc C (lc_as (lc_filter (f := eN) 3 (List.range n.wide) (pr := fun t => !decide (decide (0 < (n.cnts.getD (n.outs.getD out 0) []).getD t 0) = decide (t ≤ out))) C (ji_range1 T.range (je_ix (je_var 0) je_int (by walk_at "i")) (by omega)) (fun a ha _ _ _ _ _ C => (jt_as (jt_cmp C (je_cmp C (je_ix (je_var 4) (je_var 3) (xt a (List.mem_range.mp ha))) je_int (by walk_at "c")) (je_cmp C (je_var 3) (je_var 2) (by walk_at "c")) (.ne 0 (by decide) (sh_bl 0 _) (sh_bl 0 _))) ?e1)) (fun a ha hp _ _ _ _ _ C => (je_var 3))) (show _ = (brkBad n kd out).map eN by unfold brkBad; simp only [if_pos e])))) ?_)
    case e1 =>
      rw [eqv_bl]
      have h1 : decide ((0 : Int) < (((n.cnts.getD (n.outs.getD out 0) []).getD a 0 : Nat) : Int)) = decide (0 < (n.cnts.getD (n.outs.getD out 0) []).getD a 0) := by rw [decide_eq_decide]; omega
      have h2 : decide ((a : Int) ≤ (out : Int)) = decide (a ≤ out) := by rw [decide_eq_decide]; omega
      show (!decide (decide ((0 : Int) < (((n.cnts.getD (n.outs.getD out 0) []).getD a 0 : Nat) : Int)) = decide ((a : Int) ≤ (out : Int)))) = _
      rw [h1, h2]
    exact jb_nil rfl
  · have e : kd ≠ "greatest" := of_decide_eq_false hb
    refine jb_cons (js_set 5 C (je_f (jf_lc C (lc_as (lc_filter (f := eN) 3 (List.range n.wide) (pr := fun t => !decide ((n.cnts.getD (n.outs.getD out 0) []).getD t 0 = if t ≤ out then 1 else 0)) C (ji_range1 T.range (je_ix (je_var 0) je_int (by walk_at "i")) (by omega)) (fun a ha _ _ _ _ _ C => (jt_as (jt_cmp C (je_ix (je_var 4) (je_var 3) (xt a (List.mem_range.mp ha))) (je_intB T.int (je_cmp C (je_var 3) (je_var 2) (by walk_at "c"))) (by walk_at "c")) ?e2)) (fun a ha hp _ _ _ _ _ C => (je_var 3))) (show _ = (brkBad n kd out).map eN by unfold brkBad; simp only [if_neg e])))) ?_)
    case e2 =>
      congr 1
      rw [decide_eq_decide]
      unfold DL.b2i
      by_cases q : a ≤ out
      · have : (a : Int) ≤ (out : Int) := by omega
        rw [if_pos q, decide_eq_true this, if_pos rfl]
        omega
      · have : ¬ (a : Int) ≤ (out : Int) := by omega
        rw [if_neg q, decide_eq_false this, if_neg (by decide)]
        omega
    exact jb_nil rfl
  · subst hs'
    have hne := brk_some hg hany hw
    have hp : 0 < (brkBad n kd out).length := List.length_pos_iff.mpr hne
    have xb : IxD (eL (brkBad n kd out)) (.int 0) (eN ((brkBad n kd out).getD 0 0)) := ix_lst eN (i := 0) 0 hp
    refine jb_cons (js_ret (je_as (je_f (jf_lc C (lc_map (f := fun one : Nat => eN (if one = (brkBad n kd out).getD 0 0 then 1 else 0)) 3 (List.range n.wide) C (ji_range1 T.range (je_ix (je_var 0) je_int (by walk_at "i")) (by omega)) (fun a ha _ _ _ _ _ C => (je_as (je_intB T.int (je_cmp C (je_var 3) (je_ix (je_var 5) je_int xb) (by walk_at "c"))) ?e3))))) (show _ = brkN n kd out by rw [brkN, if_neg hany, eL, unitN, List.map_map]; rfl)) ?_)
    case e3 =>
      rw [b2i_eN]
      congr 1
      by_cases q : a = (brkBad n kd out).getD 0 0
      · have : (a : Int) = (((brkBad n kd out).getD 0 0 : Nat) : Int) := by omega
        rw [if_pos q, if_pos (decide_eq_true this)]
      · have : ¬ (a : Int) = (((brkBad n kd out).getD 0 0 : Nat) : Int) := by omega
        rw [if_neg q, if_neg (by rw [decide_eq_false this]; decide)]
    rfl
abbrev sJudged : Stmt := topS 21
theorem scJudged : FnScope ["net", "kind", "out"] ["net", "kind"] (defScope sJudged) := ⟨rfl, rfl, rfl, by decide +kernel, rfl, by decide +kernel, by decide +kernel⟩
def kindsL : List Str := ["any", "commuting", "greatest"]
/-- the constant KINDS -/
structure KindsF (K : PySem.W.Frag) (mg : Str → Option Value) : Prop where
  ex : ∃ a, mg "KINDS" = some (.ref a) ∧ SqT K (fun _ => none) a (kindsL.map V.str)
theorem je_kinds {X : Cx} {W : WX} {s : DL.A} {pos : Pos} (h : KindsF X.K X.mg) (hg : Gl X "KINDS" := by rfl) : JE X W (.Name "KINDS" pos) s (.ok (.tup (kindsL.map .str))) s := by
  obtain ⟨a, h1, h2⟩ := h.ex
  exact je_c (v := .ref a) (pe_glob hg h1 rfl (by decide)) fun B => .tup (by
    rcases h2 with (h2 | ⟨o, h2⟩) | h2
    · cases h2
    · cases h2
    · exact .inr h2) (Reps.of_strs _)
/-- of nets -/
def preJudged (cN cK : Addr) : List D → Res → Prop := fun ds r => ∃ (n : N3) (s : Str), n.fit ∧ ds = [n.e, .str s] ∧ ((¬ n.ok ∧ r = .er cN) ∨ (n.ok ∧ s ∉ kindsL ∧ r = .er cK) ∨ ∃ m : Nt, m.good ∧ m.n3 = n ∧ s ∈ kindsL ∧ r = .ok (judgN m s))
theorem preJudged_ok {cN cK : Addr} {n : Nt} (hg : n.good) {s : Str} (hs : s ∈ kindsL) : preJudged cN cK [n.e, .str s] (.ok (judgN n s)) := ⟨n.n3, s, hg.fit, by rw [n.e_n3], .inr (.inr ⟨n, hg, rfl, hs, rfl⟩)⟩
theorem fn_judged {f : Addr} {fd : FuncData} (F : Fun K "judged" "judged" sJudged f fd) (hb : Binds K fd ["net", "kind"] []) (hm : mg "judged" = some (.ref f)) (T : Bt mg) {cN cK : Addr} (xBadKind : ExcOf K mg "BadKind" cK) (hK : KindsF K mg) (Flook_net : Fn Pg w K mg base "look_net" 1 1 (pre3 cN)) (Fwrong_out : Fn Pg w K mg base "wrong_out" 2 3 preWrong) (Fbreaking_row : Fn Pg w K mg base "breaking_row" 3 3 preBrk) : Fn Pg w K mg base "judged" 2 4 (preJudged cN cK) := by
  refine fn_ok (ps := ["net", "kind"]) F scJudged hb hm (fun ds r ⟨n, s, _, h, _⟩ => by rw [h]; rfl) (by decide) fun cdv A outer s H E C ds r h => ?_
  obtain ⟨n, kd, hf, rfl, h⟩ := h
  show JB _ _ _ ⟨[.d n.e, .d (.str kd), .u], []⟩ _
  by_cases hok : n.ok
  case neg =>
    rcases h with ⟨_, rfl⟩ | ⟨z, _⟩ | ⟨m, hg, rfl, _⟩
    · exact jb_cons (js_exprE (je_callE C Flook_net (by decide) (jd_cons (je_var 0) jd_nil) ⟨n, hf, rfl, .inr ⟨hok, rfl⟩⟩) rfl)
    · exact absurd z hok
    · exact absurd hg.ok hok
  refine jb_cons (js_expr (je_call C Flook_net (by decide) (jd_cons (je_var 0) jd_nil) ⟨n, hf, rfl, .inl ⟨hok, rfl⟩⟩) ?_)
  refine jb_cons (js_if (jt_cmp C (je_var 1) (je_kinds hK) .ninTS) (fun hb => ?_) (fun hb => ?_))
  · have hn : kd ∉ kindsL := fun z => by
      have : (kindsL.any fun j => decide (j = kd)) = true := List.any_eq_true.mpr ⟨kd, z, decide_eq_true rfl⟩
      rw [this] at hb
      cases hb
    rcases h with ⟨z, _⟩ | ⟨_, _, rfl⟩ | ⟨m, hg, _, z, _⟩
    · exact absurd hok z
    · exact jb_cons (js_raise C xBadKind rfl)
    · exact absurd z hn
  have hin : kd ∈ kindsL := by
    cases q : (kindsL.any fun j => decide (j = kd)) with
    | false => rw [q] at hb; cases hb
    | true =>
      obtain ⟨j, hj, e⟩ := List.any_eq_true.mp q
      have := of_decide_eq_true e
      subst this
      exact hj
  rcases h with ⟨z, _⟩ | ⟨_, z, _⟩ | ⟨m, hg, rfl, _, rfl⟩
  · exact absurd hok z
  · exact absurd hin z
  rw [m.e_n3]
  refine jb_nil ?_
  refine jb_cons (js_set 2 C (je_call C Fwrong_out (by decide) (jd_cons (je_var 0) (jd_cons (je_var 1) jd_nil)) ⟨m, kd, hg, rfl, rfl⟩) ?_)
  cases hw : wrongN m kd with
  | none =>
    refine jb_cons (js_if (jt_cmp C (je_var 2) je_non (by walk_at "c")) (fun hb => ?_) (fun hb => Bool.noConfusion (show true = false from hb)))
    refine jb_cons (js_ret (je_tup (jd_cons je_str jd_nil)) ?_)
    show Res.ok _ = Res.ok _
    rw [judgN, hw]
  | some k =>
    refine jb_cons (js_if (jt_cmp C (je_var 2) je_non (by walk_at "c")) (fun hb => Bool.noConfusion (show false = true from hb)) (fun hb => ?_))
    refine jb_nil ?_
    refine jb_cons (js_ret (je_tup (jd_cons je_str (jd_cons (je_var 2) (jd_cons (je_call C Fbreaking_row (by decide) (jd_cons (je_var 0) (jd_cons (je_var 1) (jd_cons (je_var 2) jd_nil))) ⟨m, kd, k, hg, hw, rfl, rfl⟩) jd_nil)))) ?_)
    show Res.ok _ = Res.ok _
    rw [judgN, hw]
    rfl
end
end Wk

namespace Wk
open PySem PySem.Spec PyProof.Rows L2 DL Sm
section
variable {Pg : Program} {w : World} {K : PySem.W.Frag} {mg : Str → Option Value} {base : Heap}
abbrev sSummed : Stmt := topS 13
theorem scSummed : FnScope ["kind", "one", "other"] ["kind", "one", "other"] (defScope sSummed) := ⟨rfl, rfl, rfl, by decide +kernel, rfl, by decide +kernel, by decide +kernel⟩
def preSummed : List D → Res → Prop := fun ds r => ∃ (kd : Str) (x y : Vl), x.isS = y.isS ∧ (x.isS = true → kd ≠ "greatest") ∧ x.len + y.len ≤ 16777216 ∧ ds = [.str kd, eV x, eV y] ∧ r = .ok (eV (opV kd x y))
theorem fn_summed {f : Addr} {fd : FuncData} (F : Fun K "summed" "summed" sSummed f fd) (hb : Binds K fd ["kind", "one", "other"] []) (hm : mg "summed" = some (.ref f)) (T : Bt mg) : Fn Pg w K mg base "summed" 3 1 preSummed := by
  refine fn_ok (ps := ["kind", "one", "other"]) F scSummed hb hm (fun ds r ⟨kd, x, y, _, _, _, h, _⟩ => by rw [h]; rfl) (by decide) fun cdv A outer s H E C ds r h => ?_
  obtain ⟨kd, x, y, h1, h2, h3, rfl, rfl⟩ := h
  cases x with
  | s x =>
    cases y with
    | i y => cases h1
    | s y =>
      show JB _ _ _ ⟨[.d (.str kd), .d (.str x), .d (.str y)], []⟩ _
      refine jb_cons (js_if (jt_cmp C (je_var 0) je_str (by walk_at "c")) (fun hb => ?_) (fun hb => ?_))
      · exact absurd (of_decide_eq_true hb) (h2 rfl)
      refine jb_nil ?_
      exact jb_cons (js_ret (je_bin (je_var 1) (je_var 2) (.addS (by rw [sizeLine_eq]; exact h3))) rfl)
  | i x =>
    cases y with
    | s y => cases h1
    | i y =>
      show JB _ _ _ ⟨[.d (.str kd), .d (.int x), .d (.int y)], []⟩ _
      refine jb_cons (js_if (jt_cmp C (je_var 0) je_str (by walk_at "c")) (fun hb => ?_) (fun hb => ?_))
      · refine jb_cons (js_ret (je_max2 C T.max (je_var 1) (je_var 2)) ?_)
        show Res.ok (eV (opV kd (.i x) (.i y))) = Res.ok _
        rw [opV_ii, if_pos (of_decide_eq_true hb)]
        rfl
      refine jb_nil ?_
      refine jb_cons (js_ret (je_bin (je_var 1) (je_var 2) .addI) ?_)
      show Res.ok (eV (opV kd (.i x) (.i y))) = Res.ok _
      rw [opV_ii, if_neg (of_decide_eq_false hb)]
      rfl
abbrev sRow : Stmt := topS 14
theorem scRow : FnScope ["net", "kind", "row", "one"] ["net", "kind", "row"] (defScope sRow) := ⟨rfl, rfl, rfl, by decide +kernel, rfl, by decide +kernel, by decide +kernel⟩
/-- what is due of a net, a kind and a row -/
def dueRow (r : Nat → Res) (ok : Nt → Res → Prop) (n : N3) (kd : Str) (row : List Vl) (z : Res) : Prop := (¬ n.ok ∧ z = r 1) ∨ ∃ m : Nt, m.good ∧ m.n3 = n ∧ ((kd ∉ kindsL ∧ z = r 0) ∨ (kd ∈ kindsL ∧ ¬ rowOk m.wide kd row ∧ z = r 2) ∨ (kd ∈ kindsL ∧ rowOk m.wide kd row ∧ ok m z))
def erK (cK cN cR : Addr) : Nat → Res := fun j => .er (if j = 0 then cK else if j = 1 then cN else cR)
def preRow (cK cN cR : Addr) : List D → Res → Prop := fun ds z => ∃ (n : N3) (kd : Str) (row : List Vl), n.fit ∧ row.length ≤ 1000 ∧ ds = [n.e, .str kd, .lst (row.map eV)] ∧ dueRow (erK cK cN cR) (fun _ z => z = .ok .non) n kd row z
theorem fn_row {f : Addr} {fd : FuncData} (F : Fun K "look_row" "look_row" sRow f fd) (hb : Binds K fd ["net", "kind", "row"] []) (hm : mg "look_row" = some (.ref f)) (T : Bt mg) {cK cN cR : Addr} (xBadKind : ExcOf K mg "BadKind" cK) (xBadRow : ExcOf K mg "BadRow" cR) (hK : KindsF K mg) (Flook_net : Fn Pg w K mg base "look_net" 1 1 (pre3 cN)) : Fn Pg w K mg base "look_row" 3 2 (preRow cK cN cR) := by
  refine fn_ok (ps := ["net", "kind", "row"]) F scRow hb hm (fun ds r ⟨n, kd, row, _, _, h, _⟩ => by rw [h]; rfl) (by decide) fun cdv A outer s H E C ds r h => ?_
  obtain ⟨n, kd, row, hf, hl, rfl, h⟩ := h
  show JB _ _ _ ⟨[.d n.e, .d (.str kd), .d (.lst (row.map eV)), .u], []⟩ _
  rcases h with ⟨hok, rfl⟩ | ⟨m, hg, rfl, h⟩
  · exact jb_cons (js_exprE (je_callE C Flook_net (by decide) (jd_cons (je_var 0) jd_nil) ⟨n, hf, rfl, .inr ⟨hok, rfl⟩⟩) rfl)
  refine jb_cons (js_expr (je_call C Flook_net (by decide) (jd_cons (je_var 0) jd_nil) ⟨m.n3, hf, rfl, .inl ⟨hg.ok, rfl⟩⟩) ?_)
  rw [m.e_n3]
  have kin : (kindsL.any fun j => decide (j = kd)) = decide (kd ∈ kindsL) := by
    by_cases hk : kd ∈ kindsL
    · rw [decide_eq_true hk]
      exact List.any_eq_true.mpr ⟨kd, hk, decide_eq_true rfl⟩
    · rw [decide_eq_false hk]
      cases q : kindsL.any fun j => decide (j = kd) with
      | false => rfl
      | true =>
        obtain ⟨j, hj, e⟩ := List.any_eq_true.mp q
        have := of_decide_eq_true e
        subst this
        exact absurd hj hk
  have hl2 : row.length ≤ sizeLine := by rw [sizeLine_eq]; omega
  have nin : kd ∈ kindsL → (!kindsL.any fun j => decide (j = kd)) = false := fun hk => by rw [kin, decide_eq_true hk]; rfl
  have alls : (row.all fun v => decide (v.isS = decide (kd = "any"))) = true ↔ ∀ v ∈ row, v.isS = decide (kd = "any") := by
    rw [List.all_eq_true]
    exact ⟨fun h v hv => of_decide_eq_true (h v hv), fun h v hv => decide_eq_true (h v hv)⟩
  have test : (kd ∈ kindsL) → JB (cxOf (CX Pg w) Pg w K mg base ["net", "kind", "row", "one"] "look_row" (defScope sRow) f cdv A outer s H E) (fun cls d x H => E cls d H) ((defBody sRow).drop 2) ⟨[.d m.e, .d (.str kd), .d (.lst (row.map eV)), .u], []⟩ (PoR (if row.length = m.wide ∧ (row.all fun v => decide (v.isS = decide (kd = "any"))) = true then .ok .non else .er cR)) := fun hk => by
    refine jb_cons (js_if (jt_w (jw_or (jt_cmp C (je_len T.len (je_var 2) (by walk_at "len")) (je_ix (je_var 0) je_int (by walk_at "i")) .neI) (jw_or1 (jt_not (jt_val (je_allM (pr := fun v : Vl => decide (v.isS = decide (kd = "any"))) C T.all (je_f (jf_lc C (lc_map (enc := eV) (f := fun v : Vl => D.bl (decide (v.isS = decide (kd = "any")))) 3 row C (ji_list (je_var 2)) (fun v hv _ _ _ _ _ C => ?e1))))))))) ) (fun hb => ?_) (fun hb => ?_))
    case e1 =>
      cases v with
      | s x => exact je_cmp C (je_isinst T.isinstance (je_var 3) (pe_bltn (v := .ty "str") rfl T.str (by decide +kernel) rfl) (.ty _) (.str (b := true) (kit_ty (by decide +kernel)))) (je_cmp C (je_var 1) je_str .eqS) .eqB
      | i x => exact je_cmp C (je_isinst T.isinstance (je_var 3) (pe_bltn (v := .ty "str") rfl T.str (by decide +kernel) rfl) (.ty _) (.int (b := false) (kit_ty (by decide +kernel)))) (je_cmp C (je_var 1) je_str .eqS) .eqB
    · have hn : ¬ (row.length = m.wide ∧ (row.all fun v => decide (v.isS = decide (kd = "any"))) = true) := fun ⟨h1, h2⟩ => by
        rw [List.length_map, h1, h2] at hb
        simp at hb
      rw [if_neg hn]
      exact jb_cons (js_raise C xBadRow rfl)
    · have hn : row.length = m.wide ∧ (row.all fun v => decide (v.isS = decide (kd = "any"))) = true := by
        rw [List.length_map, Bool.or_eq_false_iff] at hb
        obtain ⟨b1, b2⟩ := hb
        refine ⟨by have := bnot_decF b1; omega, ?_⟩
        cases e : row.all fun v => decide (v.isS = decide (kd = "any")) with
        | false => rw [e] at b2; cases b2
        | true => rfl
      rw [if_pos hn]
      exact jb_nil (jb_nil rfl)
  rcases h with ⟨hk, rfl⟩ | ⟨hk, hn, rfl⟩ | ⟨hk, hn, rfl⟩
  · refine jb_cons (js_if (jt_as (jt_cmp C (je_var 1) (je_kinds hK) .ninTS) (show _ = true by rw [kin, decide_eq_false hk]; rfl)) (fun hb => ?_) (fun hb => Bool.noConfusion hb))
    exact jb_cons (js_raise C xBadKind rfl)
  · refine jb_cons (js_if (jt_as (jt_cmp C (je_var 1) (je_kinds hK) .ninTS) (nin hk)) (fun hb => Bool.noConfusion hb) (fun hb => ?_))
    refine jb_nil ?_
    have := test hk
    rw [if_neg (fun ⟨h1, h2⟩ => hn ⟨h1, alls.mp h2⟩)] at this
    exact this
  · refine jb_cons (js_if (jt_as (jt_cmp C (je_var 1) (je_kinds hK) .ninTS) (nin hk)) (fun hb => Bool.noConfusion hb) (fun hb => ?_))
    refine jb_nil ?_
    have := test hk
    rw [if_pos ⟨hn.1, alls.mpr hn.2⟩] at this
    exact this
abbrev sRun : Stmt := topS 15
theorem scRun : FnScope ["net", "kind", "row", "found", "one", "other", "out"] ["net", "kind", "row"] (defScope sRun) := ⟨rfl, rfl, rfl, by decide +kernel, rfl, by decide +kernel, by decide +kernel⟩
/-- texts stay small -/
def small (n : Nt) (kd : Str) (row : List Vl) : Prop := kd = "any" → n.steps.length ≤ 20 ∧ ∀ v ∈ row, v.len ≤ 7
def preRun (cK cN cR : Addr) : List D → Res → Prop := fun ds z => ∃ (n : N3) (kd : Str) (row : List Vl), n.fit ∧ row.length ≤ 1000 ∧ ds = [n.e, .str kd, .lst (row.map eV)] ∧ dueRow (erK cK cN cR) (fun m z => small m kd row ∧ z = .ok (.lst ((runO m kd row).map eV))) n kd row z
theorem fn_run {f : Addr} {fd : FuncData} (F : Fun K "run" "run" sRun f fd) (hb : Binds K fd ["net", "kind", "row"] []) (hm : mg "run" = some (.ref f)) (T : Bt mg) {cK cN cR : Addr} (Flook_row : Fn Pg w K mg base "look_row" 3 2 (preRow cK cN cR)) (Fsummed : Fn Pg w K mg base "summed" 3 1 preSummed) : Fn Pg w K mg base "run" 3 3 (preRun cK cN cR) := by
  refine fn_ok (ps := ["net", "kind", "row"]) F scRun hb hm (fun ds r ⟨n, kd, row, _, _, h, _⟩ => by rw [h]; rfl) (by decide) fun cdv A outer s H E C ds r h => ?_
  obtain ⟨n, kd, row, hf, hl, rfl, h⟩ := h
  show JB _ _ _ ⟨[.d n.e, .d (.str kd), .d (.lst (row.map eV)), .u, .u, .u, .u], []⟩ _
  have bad : ∀ z, dueRow (erK cK cN cR) (fun _ z => z = .ok .non) n kd row (.er z) → r = .er z → JB (cxOf (CX Pg w) Pg w K mg base ["net", "kind", "row", "found", "one", "other", "out"] "run" (defScope sRun) f cdv A outer s H E) (fun cls d x H => E cls d H) (defBody sRun) ⟨[.d n.e, .d (.str kd), .d (.lst (row.map eV)), .u, .u, .u, .u], []⟩ (PoR r) := fun z hz hr => by
    rw [hr]
    exact jb_cons (js_exprE (je_callE C Flook_row (by decide) (jd_cons (je_var 0) (jd_cons (je_var 1) (jd_cons (je_var 2) jd_nil))) ⟨n, kd, row, hf, hl, rfl, hz⟩) rfl)
  rcases h with ⟨hok, rfl⟩ | ⟨m, hg, hm, ⟨hk, rfl⟩ | ⟨hk, hn, rfl⟩ | ⟨hk, hn, hsm, rfl⟩⟩
  · exact bad _ (.inl ⟨hok, rfl⟩) rfl
  · exact bad _ (.inr ⟨m, hg, hm, .inl ⟨hk, rfl⟩⟩) rfl
  · exact bad _ (.inr ⟨m, hg, hm, .inr (.inl ⟨hk, hn, rfl⟩)⟩) rfl
  refine jb_cons (js_expr (je_call C Flook_row (by decide) (jd_cons (je_var 0) (jd_cons (je_var 1) (jd_cons (je_var 2) jd_nil))) ⟨n, kd, row, hf, hl, rfl, .inr ⟨m, hg, hm, .inr (.inr ⟨hk, hn, rfl⟩)⟩⟩) ?_)
  subst hm
  rw [m.e_n3]
  have g1 := hg.w1; have g2 := hg.w2; have g3 := hg.ls; have g4 := hg.lo
  obtain ⟨rl, rs⟩ := hn
  have e0 : (List.range m.wide).map (rowV row) = row := by rw [← rl]; exact row_map row
  refine jb_cons (js_new 3 C (jf_list T.list (je_var 2) (.inl rfl)) ?_)
  rw [show (row.map eV) = ((List.range m.wide).map (rowV row)).map eV by rw [e0]]
  refine jb_cons (js_fold m.steps (evF (opV kd) (.i 0)) ((List.range m.wide).map (rowV row)) (fun b => ⟨[.d m.e, .d (.str kd), .d (.lst (((List.range m.wide).map (rowV row)).map eV)), .c 0, .u, .u, .u], [.lst (b.map eV)]⟩) (fun i b => b.length = m.wide + i ∧ ∀ v ∈ b, v.isS = decide (kd = "any") ∧ (kd = "any" → v.len ≤ 7 * 2 ^ i)) C (ji_list (je_ix (je_var 0) je_int (by walk_at "i"))) ⟨by rw [List.length_map, List.length_range]; rfl, fun v hv => by rw [e0] at hv; exact ⟨rs v hv, fun h => (hsm h).2 v hv⟩⟩ ?_ ?_)
  · intro i p b ha _ hQ
    obtain ⟨q1, q2⟩ := hQ
    have hst := hg.st i p ha
    have hi := (List.getElem?_eq_some_iff.mp ha).1
    have x1 : IxD (.lst (b.map eV)) (.int (p.1 : Nat)) (eV (b.getD p.1 (.i 0))) := ix_lst eV _ (by omega)
    have x2 : IxD (.lst (b.map eV)) (.int (p.2 : Nat)) (eV (b.getD p.2 (.i 0))) := ix_lst eV _ (by omega)
    obtain ⟨s1, l1⟩ := q2 _ (getD_mem (.i 0) (show p.1 < b.length by omega))
    obtain ⟨s2, l2⟩ := q2 _ (getD_mem (.i 0) (show p.2 < b.length by omega))
    have hlen : (b.getD p.1 (.i 0)).len + (b.getD p.2 (.i 0)).len ≤ 16777216 := by
      by_cases hk2 : kd = "any"
      · have a1 := l1 hk2
        have a2 := l2 hk2
        have := (hsm hk2).1
        have p20 : 2 ^ i ≤ 2 ^ 20 := Nat.pow_le_pow_right (by decide) (by omega)
        have p20' : (2 : Nat) ^ 20 = 1048576 := by decide
        omega
      · rw [decide_eq_false hk2] at s1 s2
        have z : ∀ v : Vl, v.isS = false → v.len = 0 := fun v hv => by
          cases v with
          | s x => cases hv
          | i x => rfl
        rw [z _ s1, z _ s2]
        decide
    have hgr : (b.getD p.1 (.i 0)).isS = true → kd ≠ "greatest" := fun h e => by
      rw [s1, e] at h
      exact absurd h (by decide)
    have nolV : ∀ v : Vl, D.nol (eV v) = true := fun v => by cases v <;> rfl
    refine jg_n2 4 5 C ?_
    refine jb_cons (js_app 3 0 (je_view (je_call C Fsummed (by decide) (jd_cons (je_var 1) (jd_cons (je_ix (je_var 3) (je_var 4) x1) (jd_cons (je_ix (je_var 3) (je_var 5) x2) jd_nil))) ⟨kd, _, _, by rw [s1, s2], hgr, hlen, rfl, rfl⟩) (nolV _)) ?_ ?_)
    · rw [List.length_map, sizeLine_eq]; omega
    refine jb_fin (t := ⟨[.d m.e, .d (.str kd), .d (.lst (((List.range m.wide).map (rowV row)).map eV)), .c 0, .u, .u, .u], [.lst ((evF (opV kd) (.i 0) b p).map eV)]⟩) ⟨rfl, ?_, fun v hv => ?_⟩ ?_
    · rw [evF, List.length_append, q1]; rfl
    · rcases List.mem_append.mp hv with hv | hv
      · obtain ⟨z1, z2⟩ := q2 v hv
        refine ⟨z1, fun h => ?_⟩
        have := z2 h
        rw [Nat.pow_succ]
        omega
      · rw [List.mem_singleton.mp hv]
        refine ⟨opV_isS kd s1 s2, fun h => ?_⟩
        have := opV_len kd (b.getD p.1 (.i 0)) (b.getD p.2 (.i 0))
        have := l1 h; have := l2 h
        rw [Nat.pow_succ]
        omega
    · rw [evF, List.map_append]; rfl
  · rintro ⟨q1, _⟩
    refine jb_freeze 3 0 ?_
    have hlo : m.outs.length ≤ sizeLine := by rw [sizeLine_eq]; omega
    refine jb_cons (js_ret (je_as (je_f (jf_lc C (lc_map (f := fun o => eV ((runL m kd row).getD o (.i 0))) 6 m.outs C (ji_list (je_ix (je_var 0) je_int (by walk_at "i"))) (fun a ha _ _ _ _ _ C => (je_ix (je_var 3) (je_var 6) (ix_lst eV (.i 0) (i := a) (by rw [show (runL m kd row).length = _ from evL_len _]; exact hg.os a ha))))))) (show _ = D.lst ((runO m kd row).map eV) by rw [runO, List.map_map]; rfl)) rfl)
end
end Wk

namespace Sm
open PySem L2 DL
section
variable {w : Nat}
theorem dpt_thing (st : Ps) {x : Nat} (h : x < w) : dpt w st x = 0 := by rw [dpt, ev_leaf h]
theorem dpt_step {st : Ps} (hok : okS w st) {j : Nat} {p : Nat × Nat} (h : st[j]? = some p) : dpt w st (w + j) = 1 + max (dpt w st p.1) (dpt w st p.2) := ev_step hok j p h
/-- one step made another: no node grows deeper than by the depth of the whole -/
theorem dpt_set {st : Ps} {i d : Nat} {q : Nat × Nat} (hi : i < st.length) (hok : okS w st) (hq : q.1 < w + i ∧ q.2 < w + i) (hok2 : okS w (st.set i q)) (hd : ∀ x, x < w + st.length → dpt w st x ≤ d) : ∀ m x, x ≤ m → x < w + st.length → (x < w + i → dpt w (st.set i q) x = dpt w st x) ∧ dpt w (st.set i q) x ≤ dpt w st x + d := by
  intro m
  induction m with
  | zero =>
    intro x hx hl
    by_cases h : x < w
    · rw [dpt_thing _ h, dpt_thing _ h]; exact ⟨fun _ => rfl, Nat.zero_le _⟩
    · have e0 : x = 0 := by omega
      have ew : w = 0 := by omega
      subst e0
      have hs : st[0]? = some st[0] := List.getElem?_eq_getElem (by omega)
      have := (hok 0 _ hs).1
      omega
  | succ m ih =>
    intro x hx hl
    by_cases h : x < w
    · rw [dpt_thing _ h, dpt_thing _ h]; exact ⟨fun _ => rfl, Nat.zero_le _⟩
    obtain ⟨j, rfl⟩ : ∃ j, x = w + j := ⟨x - w, by omega⟩
    have hj : j < st.length := by omega
    have hs : st[j]? = some st[j] := List.getElem?_eq_getElem hj
    obtain ⟨s1, s2⟩ := hok j _ hs
    rw [dpt_step hok hs]
    by_cases e : i = j
    · subst e
      have hs2 : (st.set i q)[i]? = some q := List.getElem?_set_self hi
      rw [dpt_step hok2 hs2]
      obtain ⟨q1, q2⟩ := hq
      have r1 := (ih q.1 (by omega) (by omega)).1 q1
      have r2 := (ih q.2 (by omega) (by omega)).1 q2
      have t1 := hd q.1 (by omega)
      have t2 := hd q.2 (by omega)
      refine ⟨fun z => absurd z (Nat.lt_irrefl _), ?_⟩
      omega
    · have hs2 : (st.set i q)[j]? = some st[j] := by rw [List.getElem?_set_ne e]; exact hs
      rw [dpt_step hok2 hs2]
      obtain ⟨u1, u2⟩ := ih st[j].1 (by omega) (by omega)
      obtain ⟨v1, v2⟩ := ih st[j].2 (by omega) (by omega)
      refine ⟨fun z => ?_, by omega⟩
      rw [u1 (by omega), v1 (by omega)]
end
/-- no word of such a net is long -/
def Nt.short (n : Nt) : Prop := ∀ x, x < n.wide + n.steps.length → (wrd n.wide n.steps x).length ≤ 2048
theorem short_of {n : Nt} (hg : n.good) {d : Nat} (hd : d ≤ 11) (h : ∀ x, x < n.wide + n.steps.length → dpt n.wide n.steps x ≤ d) : n.short := fun x hx => by
  have h1 := wrd_pow n.steps hg.st x hx
  have h2 : 2 ^ dpt n.wide n.steps x ≤ 2 ^ 11 := Nat.pow_le_pow_right (by decide) (by have := h x hx; omega)
  have h3 : (2 : Nat) ^ 11 = 2048 := by decide
  exact Nat.le_trans h1 (by omega)
theorem right_dpt {ns : List Int} {k : Nat} (x : Nat) (hx : x < (rightN ns k 6).wide + (rightN ns k 6).steps.length) : dpt (rightN ns k 6).wide (rightN ns k 6).steps x ≤ 5 := by
  have hg := (rightN_good (ns := ns) (k := k) (most := 6) (by decide) (by decide)).1
  have hw := (rWide_le (ns := ns) (k := k) (most := 6) (by decide)).2
  cases e : spanAt (rightN ns k 6).wide (rightN ns k 6).steps x with
  | none => exact absurd e (right_spans (by decide) x hx)
  | some q =>
    obtain ⟨a, b⟩ := q
    obtain ⟨h1, h2⟩ := dpt_span _ hg.st (fun x hx => right_spans (by decide) x hx) x a b hx e
    obtain ⟨_, h3, _⟩ := span_pow _ _ hg.st x a b hx e
    have h4 : (rightN ns k 6).wide ≤ 6 := hw
    omega
theorem net_short {ns : List Int} {k most : Nat} (h : 1 ≤ most) (h2 : most ≤ 64) : (netN ns k most).short := by
  have hg := netN_good (ns := ns) (k := k) h h2
  refine short_of hg (d := 8) (by decide) fun x hx => ?_
  exact Nat.le_trans (dpt_steps _ hg.st x hx) netN_few
theorem bent_short {ns : List Int} {k num : Nat} : (bentN (rightN ns k 6) num).short := by
  obtain ⟨hg, hl⟩ := rightN_good (ns := ns) (k := k) (most := 6) (by decide) (by decide)
  obtain ⟨bg, bw, bl⟩ := bentN_good hg (by omega) num
  have rd := fun x => right_dpt (ns := ns) (k := k) x
  revert bg bw bl rd hg
  generalize rightN ns k 6 = n
  intro hg bg bw bl rd
  unfold bentN at *
  split
  · rename_i h
    rw [if_pos h] at bg
    obtain ⟨q1, q2⟩ := bendStep_lt (num := num) hg h.2
    have hal := bendAt_lt (num := num) h.2
    refine short_of bg (d := 10) (by decide) fun x hx => ?_
    have hx : x < n.wide + n.steps.length := by
      have : x < n.wide + (n.steps.set (bendAt n num) (bendStep n num)).length := hx
      rwa [List.length_set] at this
    have := (dpt_set hal hg.st ⟨q1, q2⟩ bg.st (d := 5) rd x x (Nat.le_refl _) hx).2
    have := rd x hx
    show dpt n.wide (n.steps.set (bendAt n num) (bendStep n num)) x ≤ 10
    omega
  · rename_i h
    rw [if_neg h] at bg
    split
    · rename_i h2
      rw [if_pos h2] at bg
      exact short_of bg (d := 5) (by decide) rd
    · rename_i h2
      rw [if_neg h2] at bg
      split
      · rename_i h3
        rw [if_pos h3] at bg
        refine short_of bg (d := 6) (by decide) fun x hx => ?_
        have hx : x < n.wide + (n.steps ++ [(num / 64 % (n.wide + n.steps.length), num / 8 % n.wide)]).length := hx
        show dpt n.wide (n.steps ++ [(num / 64 % (n.wide + n.steps.length), num / 8 % n.wide)]) x ≤ 6
        obtain ⟨_, k2, k3⟩ := okS.cut bg.st
        rcases new_or hx with hx | hx
        · rw [dpt, ev_old hx]
          have := rd x hx
          show dpt n.wide n.steps x ≤ 6
          omega
        · subst hx
          rw [dpt, ev_new]
          have a1 := rd _ k2
          have a2 := rd _ k3
          show 1 + max (dpt n.wide n.steps _) (dpt n.wide n.steps _) ≤ 6
          omega
      · exact short_of hg (d := 5) (by decide) rd
end Sm

namespace Sm
open PySem L2 DL
theorem head_find {α : Type} (p : α → Bool) : ∀ l : List α, l.find? p = (l.filter p).head?
  | [] => rfl
  | x :: r => by
    cases h : p x with
    | true => rw [List.find?_cons, h, List.filter_cons, h]; rfl
    | false => rw [List.find?_cons, h, List.filter_cons, h, head_find p r]; rfl
/-- the outs that are wrong -/
def badL (n : Nt) (kd : Str) : List Nat := (List.range n.wide).filter (badOut n kd)
theorem badL_none {n : Nt} {kd : Str} (h : wrongN n kd = none) : badL n kd = [] := by
  rw [wrongN, head_find] at h
  exact List.head?_eq_none_iff.mp h
theorem badL_some {n : Nt} {kd : Str} {k : Nat} (h : wrongN n kd = some k) : ∃ r, badL n kd = k :: r := by
  rw [wrongN, head_find] at h
  exact List.head?_eq_some_iff.mp h
theorem word_ok {n : Nt} (hg : n.good) {k : Nat} (hk : k < n.wide) : n.word k ≠ [] ∧ ∀ t ∈ n.word k, t < n.wide := by
  have ho : n.outs.getD k 0 < n.wide + n.steps.length := hg.os _ (getD_mem 0 (by rw [hg.lo]; exact hk))
  exact ⟨wrd_ne n.steps hg.st _ ho, wrd_lt n.steps hg.st _ ho⟩
def intV : Vl → Int
  | .i x => x
  | .s _ => 0
theorem intV_row {row : List Vl} (h : ∀ v ∈ row, v.isS = false) (t : Nat) : rowV row t = .i (intV (rowV row t)) := by
  unfold rowV
  by_cases ht : t < row.length
  · have := h _ (getD_mem (.i 0) ht)
    cases e : row.getD t (.i 0) with
    | s x => rw [e] at this; cases this
    | i x => rfl
  · rw [List.getD_eq_getElem?_getD, List.getElem?_eq_none (by omega)]; rfl
/-- by a right net a row comes to its plain sums -/
theorem run_right {n : Nt} (hg : n.good) {kd : Str} (hk : kd = "any" ∨ kd = "commuting" ∨ kd = "greatest") {row : List Vl} (hr : rowOk n.wide kd row) (h : wrongN n kd = none) : runO n kd row = plainL kd row := by
  have g2 := hg.w2
  refine ext_getD2 (.i 0) (by rw [run_len hg, plain_len, hr.1]) fun k hkl => ?_
  rw [run_len hg] at hkl
  rw [run_word hg kd row hkl, plain_word kd row (by rw [hr.1]; exact hkl)]
  obtain ⟨w1, w2⟩ := word_ok hg hkl
  have hd : isDue kd (n.word k) k = true := by
    have := List.find?_eq_none.mp h k (List.mem_range.mpr hkl)
    rw [bad_due hg hkl hk] at this
    cases e : isDue kd (n.word k) k with
    | true => rfl
    | false => rw [e] at this; exact absurd rfl this
  rcases hk with rfl | hk
  · rw [isDue, if_pos rfl] at hd
    rw [of_decide_eq_true hd]
  have hi : ∀ v ∈ row, v.isS = false := fun v hv => by
    rw [hr.2 v hv]
    rcases hk with rfl | rfl <;> decide
  have ei : rowV row = fun t => Vl.i (intV (rowV row t)) := funext fun t => intV_row hi t
  rw [ei]
  rcases hk with rfl | rfl
  · exact due_sum w1 hd _
  · exact due_max w1 (fun t ht => by have := w2 t ht; omega) (by omega) hd _
/-- the row that breaks, as a row -/
def brkV (n : Nt) (kd : Str) (out : Nat) : List Vl := (List.range n.wide).map fun t => if kd = "any" then .s (thingS t) else .i (unitF ((brkBad n kd out).getD 0 0) t)
theorem brkV_e (n : Nt) (kd : Str) (out : Nat) : brkN n kd out = .lst ((brkV n kd out).map eV) := by
  unfold brkN brkV
  rw [List.map_map]
  by_cases h : kd = "any"
  · simp only [if_pos h]
    rfl
  · rw [if_neg h, eL, unitN, List.map_map]
    congr 1
    refine List.map_congr_left fun t _ => ?_
    show eN (if t = _ then 1 else 0) = eV (if kd = "any" then _ else _)
    rw [if_neg h, unitF]
    show D.int _ = D.int _
    congr 1
    split <;> rfl
theorem brkV_ok (n : Nt) (kd : Str) (out : Nat) : rowOk n.wide kd (brkV n kd out) := by
  refine ⟨by rw [brkV, List.length_map, List.length_range], fun v hv => ?_⟩
  obtain ⟨t, _, rfl⟩ := List.mem_map.mp hv
  by_cases h : kd = "any"
  · rw [if_pos h, decide_eq_true h]; rfl
  · rw [if_neg h, decide_eq_false h]; rfl
theorem rowV_brk {n : Nt} {kd : Str} {out t : Nat} (h : t < n.wide) : rowV (brkV n kd out) t = if kd = "any" then .s (thingS t) else .i (unitF ((brkBad n kd out).getD 0 0) t) := getD_mapR _ _ h
/-- the breaking row breaks -/
theorem run_break {n : Nt} (hg : n.good) (h6 : n.wide ≤ 6) {kd : Str} (hk : kd = "any" ∨ kd = "commuting" ∨ kd = "greatest") {k : Nat} (h : wrongN n kd = some k) : (runO n kd (brkV n kd k)).getD k (.i 0) ≠ (plainL kd (brkV n kd k)).getD k (.i 0) := by
  obtain ⟨hb, hkl⟩ : badOut n kd k = true ∧ k < n.wide := ⟨List.find?_some h, List.mem_range.mp (List.mem_of_find?_eq_some h)⟩
  obtain ⟨w1, w2⟩ := word_ok hg hkl
  rw [run_word hg kd _ hkl, plain_word kd _ (by rw [(brkV_ok n kd k).1]; exact hkl)]
  have hd : isDue kd (n.word k) k = false := by
    rw [bad_due hg hkl hk] at hb
    cases e : isDue kd (n.word k) k with
    | true => rw [e] at hb; cases hb
    | false => rfl
  have r2 : ∀ t ∈ List.range (k + 1), t < n.wide := fun t ht => by have := List.mem_range.mp ht; omega
  have mapL : ∀ l : List Nat, (∀ t ∈ l, t < n.wide) → l.map (rowV (brkV n kd k)) = l.map fun t => if kd = "any" then .s (thingS t) else .i (unitF ((brkBad n kd k).getD 0 0) t) := fun l hl => List.map_congr_left fun t ht => rowV_brk (hl t ht)
  rw [mapL _ w2, mapL _ r2]
  rcases hk with rfl | hk
  · simp only [if_pos]
    rw [isDue, if_pos rfl] at hd
    exact brk_any w1 (fun t ht => by have := w2 t ht; omega) (by omega) (of_decide_eq_false hd)
  have hany : kd ≠ "any" := by rcases hk with rfl | rfl <;> decide
  simp only [if_neg hany]
  have hne := brk_some hg hany h
  obtain ⟨b, eb⟩ : ∃ b, b = (brkBad n kd k).getD 0 0 := ⟨_, rfl⟩
  have hm : b ∈ brkBad n kd k := by rw [eb]; exact getD_mem 0 (List.length_pos_iff.mpr hne)
  rw [← eb]
  obtain ⟨m1, m2⟩ := List.mem_filter.mp hm
  have hbw := List.mem_range.mp m1
  have ho : n.outs.getD k 0 < n.wide + n.steps.length := hg.os _ (getD_mem 0 (by rw [hg.lo]; exact hkl))
  have hc : (n.cnts.getD (n.outs.getD k 0) []).getD b 0 = (n.word k).count b := wrd_count n.steps hg.st _ ho b hbw
  rw [hc] at m2
  rcases hk with rfl | rfl
  · rw [if_neg (by decide)] at m2
    exact brk_sum w1 (bnot_dec m2)
  · rw [if_pos rfl] at m2
    refine brk_max w1 fun z => bnot_dec m2 ?_
    rw [decide_eq_decide, List.count_pos_iff]
    exact z
end Sm

namespace Sm
open PySem L2 DL
theorem pw_cast : ∀ {l : List Nat}, l.Pairwise (· ≤ ·) → (l.map fun a : Nat => (a : Int)).Pairwise (· ≤ ·) := fun h => List.pairwise_map.mpr (h.imp fun h => by omega)
theorem pw_castL : ∀ {l : List Nat}, l.Pairwise (· < ·) → (l.map fun a : Nat => (a : Int)).Pairwise (· < ·) := fun h => List.pairwise_map.mpr (h.imp fun h => by omega)
theorem eW_ints (l : List Nat) : eW l = .tup ((l.map fun a : Nat => (a : Int)).map .int) := by rw [eW, List.map_map]; rfl
theorem setL_pw (l : List Nat) : (setL l).Pairwise (· < ·) := List.pairwise_lt_range.sublist List.filter_sublist
theorem mem_setL {l : List Nat} (h : ∀ t ∈ l, t < 64) (x : Nat) : x ∈ setL l ↔ x ∈ l := by
  rw [setL, List.mem_filter, List.mem_range, decide_eq_true_eq]
  exact ⟨fun z => z.2, fun z => ⟨h x z, z⟩⟩
theorem mem_cast {l : List Nat} {k : Int} : k ∈ l.map (fun a : Nat => (a : Int)) ↔ ∃ a ∈ l, (a : Int) = k := List.mem_map
/-- rows whose texts are short -/
def rowS (kd : Str) (row : List Vl) : Prop := ∀ v ∈ row, v.isS = decide (kd = "any") ∧ v.len ≤ 7 ∧ v.ok
theorem fold_ok (kd : Str) : ∀ (r : List Vl) (x : Vl), x.ok → (∀ v ∈ r, v.ok) → (r.foldl (opV kd) x).ok
  | [], _, h, _ => h
  | y :: r, x, h, h2 => by
    rw [List.foldl_cons]
    exact fold_ok kd r _ (opV_ok kd h (h2 y List.mem_cons_self)) fun v hv => h2 v (List.mem_cons_of_mem _ hv)
theorem sum_ok (kd : Str) {l : List Vl} (h : ∀ v ∈ l, v.ok) : (sumL (opV kd) (.i 0) l).ok := by
  cases l with
  | nil => exact True.intro
  | cons x r => exact fold_ok kd r x (h x List.mem_cons_self) fun v hv => h v (List.mem_cons_of_mem _ hv)
theorem rowV_mem {row : List Vl} {t : Nat} (h : t < row.length) : rowV row t ∈ row := getD_mem _ h
theorem run_okV {n : Nt} (hg : n.good) {kd : Str} {row : List Vl} (hl : row.length = n.wide) (h : ∀ v ∈ row, v.ok) : ∀ v ∈ runO n kd row, v.ok := fun v hv => by
  obtain ⟨k, hk, rfl⟩ := List.getElem_of_mem hv
  have hk2 : k < n.wide := by rw [run_len hg] at hk; exact hk
  have e := run_word hg kd row hk2
  rw [List.getD_eq_getElem?_getD, List.getElem?_eq_getElem hk] at e
  have e : (runO n kd row)[k] = _ := e
  rw [e]
  refine sum_ok kd fun v hv => ?_
  obtain ⟨t, ht, rfl⟩ := List.mem_map.mp hv
  exact h _ (rowV_mem (by rw [hl]; exact (word_ok hg hk2).2 t ht))
theorem plain_okV {kd : Str} {row : List Vl} (h : ∀ v ∈ row, v.ok) : ∀ v ∈ plainL kd row, v.ok := fun v hv => by
  obtain ⟨k, hk, rfl⟩ := List.getElem_of_mem hv
  have hk2 : k < row.length := by rw [plain_len] at hk; exact hk
  have e := plain_word kd row hk2
  rw [List.getD_eq_getElem?_getD, List.getElem?_eq_getElem hk] at e
  have e : (plainL kd row)[k] = _ := e
  rw [e]
  refine sum_ok kd fun v hv => ?_
  obtain ⟨t, ht, rfl⟩ := List.mem_map.mp hv
  exact h _ (rowV_mem (by have := List.mem_range.mp ht; omega))
theorem take_row {row : List Vl} {k : Nat} (h : k < row.length) : row.take (k + 1) = (List.range (k + 1)).map (rowV row) := by
  refine ext_getD2 (.i 0) (by rw [List.length_take, List.length_map, List.length_range]; omega) fun x hx => ?_
  rw [List.length_take] at hx
  rw [getD_mapR _ _ (by omega), rowV, List.getD_eq_getElem?_getD, List.getElem?_take, if_pos (by omega), List.getD_eq_getElem?_getD]
theorem runO_map (n : Nt) (kd : Str) (row : List Vl) : (runO n kd row).map eV = n.outs.map fun o => eV ((runL n kd row).getD o (.i 0)) := by rw [runO, List.map_map]; rfl
theorem plainL_map (kd : Str) (row : List Vl) : (plainL kd row).map eV = (List.range row.length).map fun k => eV ((plainL kd row).getD k (.i 0)) := by
  have e : (plainL kd row) = (List.range row.length).map fun k => (plainL kd row).getD k (.i 0) := by
    refine ext_getD2 (.i 0) (by rw [plain_len, List.length_map, List.length_range]) fun x hx => ?_
    rw [plain_len] at hx
    rw [getD_mapR _ _ hx]
  conv => lhs; rw [e]
  rw [List.map_map]
  rfl
theorem words_get (n : Nt) (o : Nat) : n.words.getD o [] = wrd n.wide n.steps o := rfl
theorem brkV_small {n : Nt} (h6 : n.wide ≤ 6) (kd : Str) (out : Nat) : rowS kd (brkV n kd out) := fun v hv => by
  refine ⟨(brkV_ok n kd out).2 v hv, ?_⟩
  obtain ⟨t, ht, rfl⟩ := List.mem_map.mp hv
  have ht := List.mem_range.mp ht
  have d : ∀ t, t < 6 → (thingS t).length ≤ 7 := by decide +kernel
  by_cases h : kd = "any"
  · rw [if_pos h]
    exact ⟨d t (by omega), (thing_small t (by omega)).2.2.2⟩
  · rw [if_neg h]
    exact ⟨Nat.zero_le _, True.intro⟩
/-! the rows that the law draws -/
def textS (ns : List Int) (k : Nat) : Str := ([("" : Str), "a", "b", "ab", "c" ++ (toString ((k : Nat) : Int) : Str)] : List Str).getD (mixN ns (90 + k) % 5) ""
def numI (ns : List Int) (k : Nat) : Int := ((mixN ns (100 + k) % 9 : Nat) : Int) - 4
def textsV (ns : List Int) (w : Nat) : List Vl := (List.range w).map fun k => .s (textS ns k)
def numsV (ns : List Int) (w : Nat) : List Vl := (List.range w).map fun k => .i (numI ns k)
theorem text_small : ∀ k, k < 6 → ∀ j, j < 5 → (([("" : Str), "a", "b", "ab", "c" ++ (toString ((k : Nat) : Int) : Str)] : List Str).getD j "").length ≤ 7 ∧ PyData.strOk (([("" : Str), "a", "b", "ab", "c" ++ (toString ((k : Nat) : Int) : Str)] : List Str).getD j "") = true := by decide +kernel
def drawnV (ns : List Int) (w : Nat) (kd : Str) : List Vl := if kd = "any" then textsV ns w else numsV ns w
theorem drawn_len (ns : List Int) (w : Nat) (kd : Str) : (drawnV ns w kd).length = w := by
  unfold drawnV
  split
  · rw [textsV, List.length_map, List.length_range]
  · rw [numsV, List.length_map, List.length_range]
theorem texts_is {ns : List Int} {w : Nat} : ∀ v ∈ textsV ns w, v.isS = true := fun v hv => by
  obtain ⟨t, _, rfl⟩ := List.mem_map.mp hv
  rfl
theorem nums_is {ns : List Int} {w : Nat} : ∀ v ∈ numsV ns w, v.isS = false := fun v hv => by
  obtain ⟨t, _, rfl⟩ := List.mem_map.mp hv
  rfl
theorem texts_ok {ns : List Int} {w : Nat} (h6 : w ≤ 6) : ∀ v ∈ textsV ns w, v.len ≤ 7 ∧ v.ok := fun v hv => by
  obtain ⟨t, ht, rfl⟩ := List.mem_map.mp hv
  exact text_small t (by have := List.mem_range.mp ht; omega) _ (Nat.mod_lt _ (by decide))
theorem drawn_s {ns : List Int} {w : Nat} (h6 : w ≤ 6) (kd : Str) : rowS kd (drawnV ns w kd) := fun v hv => by
  unfold drawnV at hv
  by_cases h : kd = "any"
  · rw [if_pos h] at hv
    exact ⟨by rw [texts_is v hv, decide_eq_true h], texts_ok h6 v hv⟩
  · rw [if_neg h] at hv
    obtain ⟨t, ht, rfl⟩ := List.mem_map.mp hv
    exact ⟨by rw [decide_eq_false h]; rfl, Nat.zero_le _, True.intro⟩
theorem rowS_ok {n : Nt} {kd : Str} {row : List Vl} (hl : row.length = n.wide) (h : rowS kd row) : rowOk n.wide kd row := ⟨hl, fun v hv => (h v hv).1⟩
end Sm

namespace Wk
open PySem PySem.Spec PyProof.Rows L2 DL Sm
section
variable {Pg : Program} {w : World} {K : PySem.W.Frag} {mg : Str → Option Value} {base : Heap}
abbrev sWords : Stmt := topS 30
theorem scWords : FnScope ["_law_net_here", "_law_thing", "_law_found", "_law_one", "_law_other"] ["_law_net_here"] (defScope sWords) := ⟨rfl, rfl, rfl, by decide +kernel, rfl, by decide +kernel, by decide +kernel⟩
def preWords : List D → Res → Prop := fun ds r => ∃ n : Nt, n.good ∧ n.steps.length ≤ 20 ∧ ds = [n.e] ∧ r = .ok (.lst (n.words.map eW))
theorem fn_words {f : Addr} {fd : FuncData} (F : Fun K "_law_words" "_law_words" sWords f fd) (hb : Binds K fd ["_law_net_here"] []) (hm : mg "_law_words" = some (.ref f)) (T : Bt mg) : Fn Pg w K mg base "_law_words" 1 1 preWords := by
  refine fn_ok (ps := ["_law_net_here"]) F scWords hb hm (fun ds r ⟨n, _, _, h, _⟩ => by rw [h]; rfl) (by decide) fun cdv A outer s H E C ds r h => ?_
  obtain ⟨n, hg, h20, rfl, rfl⟩ := h
  have g1 := hg.w1; have g2 := hg.w2
  show JB _ _ _ ⟨[.d n.e, .u, .u, .u, .u], []⟩ _
  have hl : (List.range n.wide).length ≤ sizeLine := by rw [List.length_range, sizeLine_eq]; omega
  refine jb_cons (js_newLc 2 C (lc_as (lc_map (f := fun t : Nat => eW [t]) 1 (List.range n.wide) C (ji_range1 T.range (je_ix (je_var 0) je_int (by walk_at "i")) (by omega)) (fun a ha _ _ _ _ _ C => (je_tup (jd_cons (je_var 1) jd_nil)))) (show _ = ((List.range n.wide).map wLeaf).map eW by rw [List.map_map]; rfl)) ?_)
  refine jb_cons (js_fold n.steps (evF (· ++ ·) []) ((List.range n.wide).map wLeaf) (fun b => ⟨[.d n.e, .u, .c 0, .u, .u], [.lst (b.map eW)]⟩) (fun i b => b.length = n.wide + i ∧ ∀ x ∈ b, x ≠ [] ∧ x.length ≤ 2 ^ i) C (ji_list (je_ix (je_var 0) je_int (by walk_at "i"))) ⟨by rw [List.length_map, List.length_range]; rfl, fun x hx => by
    obtain ⟨t, _, rfl⟩ := List.mem_map.mp hx
    exact ⟨fun z => (nomatch z), Nat.le_refl _⟩⟩ ?_ ?_)
  · intro i p b ha _ hQ
    obtain ⟨q1, q2⟩ := hQ
    have hst := hg.st i p ha
    have hi := (List.getElem?_eq_some_iff.mp ha).1
    have x1 : IxD (.lst (b.map eW)) (.int (p.1 : Nat)) (eW (b.getD p.1 [])) := ix_lst eW [] (by omega)
    have x2 : IxD (.lst (b.map eW)) (.int (p.2 : Nat)) (eW (b.getD p.2 [])) := ix_lst eW [] (by omega)
    obtain ⟨n1, l1⟩ := q2 _ (getD_mem [] (show p.1 < b.length by omega))
    obtain ⟨n2, l2⟩ := q2 _ (getD_mem [] (show p.2 < b.length by omega))
    have p20 : 2 ^ i ≤ 2 ^ 20 := Nat.pow_le_pow_right (by decide) (by omega)
    have p20' : (2 : Nat) ^ 20 = 1048576 := by decide
    refine jg_n2 3 4 C ?_
    refine jb_cons (js_app 2 0 (je_view (je_bin (je_ix (je_var 2) (je_var 3) x1) (je_ix (je_var 2) (je_var 4) x2) (.catT (fun z => n1 (List.map_eq_nil_iff.mp z)) (by rw [List.length_map, List.length_map, sizeLine_eq]; omega))) (nol_app _ _)) ?_ ?_)
    · rw [List.length_map, sizeLine_eq]; omega
    refine jb_fin (t := ⟨[.d n.e, .u, .c 0, .u, .u], [.lst ((evF (· ++ ·) [] b p).map eW)]⟩) ⟨rfl, ?_, fun x hx => ?_⟩ ?_
    · rw [evF, List.length_append, q1]; rfl
    · rw [Nat.pow_succ]
      rcases List.mem_append.mp hx with hx | hx
      · obtain ⟨z1, z2⟩ := q2 x hx
        exact ⟨z1, by omega⟩
      · rw [List.mem_singleton.mp hx]
        exact ⟨fun z => n1 (List.append_eq_nil_iff.mp z).1, by rw [List.length_append]; omega⟩
    · rw [evF, List.map_append]
      exact congrArg (fun z => [Cl.lst (b.map eW ++ [D.tup z])]) (List.map_append (f := eN)).symm
  · intro _
    refine jb_freeze 2 0 ?_
    exact jb_cons (js_ret (je_var 2) rfl)
end
end Wk

namespace Wk
open PySem PySem.Spec PyProof.Rows L2 DL Sm
section
variable {Pg : Program} {w : World} {K : PySem.W.Frag} {mg : Str → Option Value} {base : Heap}
theorem rowS_small {n : Nt} {kd : Str} {row : List Vl} (h20 : n.steps.length ≤ 20) (h : rowS kd row) : small n kd row := fun _ => ⟨h20, fun v hv => (h v hv).2.1⟩
theorem kinds3 {kd : Str} (h : kd ∈ kindsL) : kd = "any" ∨ kd = "commuting" ∨ kd = "greatest" := by
  unfold kindsL at h
  rcases List.mem_cons.mp h with h | h
  · exact .inl h
  rcases List.mem_cons.mp h with h | h
  · exact .inr (.inl h)
  exact .inr (.inr (List.mem_singleton.mp h))
theorem nolV : ∀ v : Vl, D.nol (eV v) = true := fun v => by cases v <;> rfl
abbrev sSum : Stmt := topS 32
theorem scSum : FnScope ["_law_kind", "_law_some", "_law_found", "_law_one"] ["_law_kind", "_law_some"] (defScope sSum) := ⟨rfl, rfl, rfl, by decide +kernel, rfl, by decide +kernel, by decide +kernel⟩
def preSum : List D → Res → Prop := fun ds r => ∃ (kd : Str) (vs : List Vl), vs ≠ [] ∧ vs.length ≤ 2048 ∧ (∀ v ∈ vs, v.isS = decide (kd = "any") ∧ v.len ≤ 7) ∧ ds = [.str kd, .lst (vs.map eV)] ∧ r = .ok (eV (sumL (opV kd) (.i 0) vs))
theorem fn_sum {f : Addr} {fd : FuncData} (F : Fun K "_law_sum" "_law_sum" sSum f fd) (hb : Binds K fd ["_law_kind", "_law_some"] []) (hm : mg "_law_sum" = some (.ref f)) (T : Bt mg) : Fn Pg w K mg base "_law_sum" 2 1 preSum := by
  refine fn_ok (ps := ["_law_kind", "_law_some"]) F scSum hb hm (fun ds r ⟨kd, vs, _, _, _, h, _⟩ => by rw [h]; rfl) (by decide) fun cdv A outer s H E C ds r h => ?_
  obtain ⟨kd, vs, hne, hl, hs, rfl, rfl⟩ := h
  cases vs with
  | nil => exact absurd rfl hne
  | cons v r =>
  show JB _ _ _ ⟨[.d (.str kd), .d (.lst ((v :: r).map eV)), .u, .u], []⟩ _
  have hr : r.length ≤ 2047 := by rw [List.length_cons] at hl; omega
  have hll : r.length ≤ sizeLine := by rw [sizeLine_eq]; omega
  refine jb_cons (js_set 2 C (je_ix (je_var 1) je_int (ix_lst eV (l := v :: r) (i := 0) (.i 0) (by rw [List.length_cons]; omega))) ?_)
  refine jb_cons (js_fold r (opV kd) v (fun b => ⟨[.d (.str kd), .d (.lst ((v :: r).map eV)), .d (eV b), .u], []⟩) (fun i b => b.isS = decide (kd = "any") ∧ b.len ≤ 7 * (i + 1)) C (ji_list (je_f (jf_as (jf_cut (je_var 1) (jo_some je_int) jo_none) (show _ = r.map eV from cut_drop ((v :: r).map eV) 1)))) ⟨(hs v List.mem_cons_self).1, (hs v List.mem_cons_self).2⟩ ?_ ?_)
  · intro i x b ha _ hQ
    obtain ⟨q1, q2⟩ := hQ
    have hx : x ∈ r := List.mem_of_getElem? ha
    have hi := (List.getElem?_eq_some_iff.mp ha).1
    obtain ⟨s1, l1⟩ := hs x (List.mem_cons_of_mem _ hx)
    refine jg_name 3 C.nd ?_
    have fin : (opV kd b x).isS = decide (kd = "any") ∧ (opV kd b x).len ≤ 7 * (i + 1 + 1) := ⟨opV_isS kd q1 s1, by
      have := opV_len kd b x
      omega⟩
    cases b with
    | s b =>
      cases x with
      | i x => rw [← q1] at s1; cases s1
      | s x =>
        have hb2 : b.length + x.length ≤ sizeLine := by
          have : b.length + x.length ≤ 7 * (i + 1) + 7 := Nat.add_le_add q2 l1
          rw [sizeLine_eq]
          omega
        have hka : kd = "any" := of_decide_eq_true q1.symm
        refine jb_cons (js_set 2 C (je_if (jt_cmp C (je_var 0) je_str .neS) (fun hc => je_bin (je_var 2) (je_var 3) (.addS hb2)) (fun hc => absurd (hka.symm.trans (bnot_decF hc)) (by decide))) ?_)
        exact jb_fin (t := ⟨[.d (.str kd), .d (.lst ((v :: r).map eV)), .d (eV (opV kd (.s b) (.s x))), .u], []⟩) ⟨rfl, fin⟩
    | i b =>
      cases x with
      | s x => rw [← q1] at s1; cases s1
      | i x =>
        refine jb_cons (js_set 2 C (d := eV (opV kd (.i b) (.i x))) (je_if (jt_cmp C (je_var 0) je_str .neS) (fun hc => je_as (je_bin (je_var 2) (je_var 3) .addI) ?e1) (fun hc => je_as (je_max2 C T.max (je_var 2) (je_var 3)) ?e2)) ?_)
        case e1 => rw [opV_ii, if_neg (bnot_dec hc)]; rfl
        case e2 => rw [opV_ii, if_pos (bnot_decF hc)]; rfl
        exact jb_fin (t := ⟨[.d (.str kd), .d (.lst ((v :: r).map eV)), .d (eV (opV kd (.i b) (.i x))), .u], []⟩) ⟨rfl, fin⟩
  · intro _
    exact jb_cons (js_ret (je_var 2) rfl)
abbrev sPlain : Stmt := topS 16
theorem scPlain : FnScope ["kind", "row", "found", "one"] ["kind", "row"] (defScope sPlain) := ⟨rfl, rfl, rfl, by decide +kernel, rfl, by decide +kernel, by decide +kernel⟩
def prePlain : List D → Res → Prop := fun ds r => ∃ (kd : Str) (row : List Vl), row.length ≤ 1000 ∧ rowS kd row ∧ ds = [.str kd, .lst (row.map eV)] ∧ r = .ok (.lst ((plainL kd row).map eV))
theorem fn_plain {f : Addr} {fd : FuncData} (F : Fun K "plain" "plain" sPlain f fd) (hb : Binds K fd ["kind", "row"] []) (hm : mg "plain" = some (.ref f)) (T : Bt mg) (Fsummed : Fn Pg w K mg base "summed" 3 1 preSummed) : Fn Pg w K mg base "plain" 2 2 prePlain := by
  refine fn_ok (ps := ["kind", "row"]) F scPlain hb hm (fun ds r ⟨kd, row, _, _, h, _⟩ => by rw [h]; rfl) (by decide) fun cdv A outer s H E C ds r h => ?_
  obtain ⟨kd, row, hl, hs, rfl, rfl⟩ := h
  show JB _ _ _ ⟨[.d (.str kd), .d (.lst (row.map eV)), .u, .u], []⟩ _
  have hll : row.length ≤ sizeLine := by rw [sizeLine_eq]; omega
  refine jb_cons (js_new 2 C (jf_lst jd_nil) ?_)
  refine jb_cons (js_fold row (plF kd) [] (fun b => ⟨[.d (.str kd), .d (.lst (row.map eV)), .c 0, .u], [.lst (b.map eV)]⟩) (fun i b => b.length = i ∧ ∀ v ∈ b, v.isS = decide (kd = "any") ∧ v.len ≤ 7 * i ∧ v.ok) C (ji_list (je_var 1)) ⟨rfl, fun v hv => nomatch hv⟩ ?_ ?_)
  · intro i x b ha _ hQ
    obtain ⟨q1, q2⟩ := hQ
    have hx : x ∈ row := List.mem_of_getElem? ha
    have hi := (List.getElem?_eq_some_iff.mp ha).1
    obtain ⟨s1, l1, o1⟩ := hs x hx
    have shb : Sh 1 (.lst (b.map eV)) := sh_lst fun v hv => sh_eV 0 (q2 v hv).2.2
    have she : Sh 1 (.lst ([].map eV)) := sh_lst (l := []) fun v hv => nomatch hv
    obtain ⟨z, ez⟩ : ∃ z, z = if b = [] then x else opV kd (b.getD (b.length - 1) (.i 0)) x := ⟨_, rfl⟩
    have zz : z.isS = decide (kd = "any") ∧ z.len ≤ 7 * (i + 1) ∧ z.ok := by
      rw [ez]
      split
      · exact ⟨s1, by omega, o1⟩
      · rename_i hne
        obtain ⟨t1, t2, t3⟩ := q2 _ (getD_mem (.i 0) (show b.length - 1 < b.length by have := List.length_pos_iff.mpr hne; omega))
        refine ⟨opV_isS kd t1 s1, ?_, opV_ok kd t3 o1⟩
        have := opV_len kd (b.getD (b.length - 1) (.i 0)) x
        omega
    refine jg_name 3 C.nd ?_
    refine jb_cons (js_app 2 0 (je_view (d := eV z) (je_if (jt_as (jt_cmp C (je_var 2) (je_f (jf_lst jd_nil)) (.eq 1 (by decide) shb she)) (show _ = decide (b = []) from eqv_lst inj_eV b [])) (fun hc => je_as (je_var 3) ?e1) (fun hc => ?e2)) (nolV _)) ?_ ?_)
    case e1 => rw [ez, if_pos (of_decide_eq_true hc)]
    case e2 =>
      have hne := of_decide_eq_false hc
      rw [ez, if_neg hne]
      have hlen := List.length_pos_iff.mpr hne
      obtain ⟨t1, t2, t3⟩ := q2 _ (getD_mem (.i 0) (show b.length - 1 < b.length by omega))
      refine je_call C Fsummed (by decide) (jd_cons (je_var 0) (jd_cons (je_ix (je_var 2) (je_neg je_int) (ix_last eV (.i 0) hne)) (jd_cons (je_var 3) jd_nil))) ⟨kd, _, _, by rw [t1, s1], fun h e => ?_, by omega, rfl, rfl⟩
      rw [t1, e] at h
      exact absurd h (by decide)
    · rw [List.length_map, sizeLine_eq]; omega
    refine jb_fin (t := ⟨[.d (.str kd), .d (.lst (row.map eV)), .c 0, .u], [.lst ((plF kd b x).map eV)]⟩) ⟨rfl, ?_, fun v hv => ?_⟩ ?_
    · rw [plF, List.length_append, q1]; rfl
    · rw [plF, ← ez] at hv
      rcases List.mem_append.mp hv with hv | hv
      · obtain ⟨t1, t2, t3⟩ := q2 v hv
        exact ⟨t1, by omega, t3⟩
      · rw [List.mem_singleton.mp hv]; exact zz
    · rw [plF, ← ez, List.map_append]; rfl
  · intro _
    refine jb_freeze 2 0 ?_
    exact jb_cons (js_ret (je_var 2) rfl)
abbrev sDue : Stmt := topS 33
theorem scDue : FnScope ["_law_kind", "_law_word", "_law_out", "_law_due"] ["_law_kind", "_law_word", "_law_out"] (defScope sDue) := ⟨rfl, rfl, rfl, by decide +kernel, rfl, by decide +kernel, by decide +kernel⟩
def preDue : List D → Res → Prop := fun ds r => ∃ (kd : Str) (l : List Nat) (k : Nat), l.length ≤ 2048 ∧ (∀ t ∈ l, t < 60) ∧ k < 60 ∧ kd ∈ kindsL ∧ ds = [.str kd, eW l, .int k] ∧ r = .ok (.bl (isDue kd l k))
theorem fn_due {f : Addr} {fd : FuncData} (F : Fun K "_law_is_due" "_law_is_due" sDue f fd) (hb : Binds K fd ["_law_kind", "_law_word", "_law_out"] []) (hm : mg "_law_is_due" = some (.ref f)) (T : Bt mg) : Fn Pg w K mg base "_law_is_due" 3 1 preDue := by
  refine fn_ok (ps := ["_law_kind", "_law_word", "_law_out"]) F scDue hb hm (fun ds r ⟨kd, l, k, _, _, _, _, h, _⟩ => by rw [h]; rfl) (by decide) fun cdv A outer s H E C ds r h => ?_
  obtain ⟨kd, l, k, hl, h60, hk, hkd, rfl, rfl⟩ := h
  show JB _ _ _ ⟨[.d (.str kd), .d (eW l), .d (.int k), .u], []⟩ _
  refine jb_cons (js_set 3 C (je_as (je_tupR C T.tuple T.range (je_as (je_bin (je_var 2) je_int .addI) (show _ = D.int ((k + 1 : Nat) : Int) from rfl)) (by omega)) (show _ = eW (List.range (k + 1)) from rfl)) ?_)
  refine jb_cons (js_if (jt_cmp C (je_var 0) je_str .eqS) (fun hb => ?_) (fun hb => ?_))
  · have e := of_decide_eq_true hb
    refine jb_cons (js_ret (je_as (je_cmp C (je_var 1) (je_var 3) (.eq 1 (by decide) (sh_eW 0 _) (sh_eW 0 _))) (show _ = D.bl (isDue kd l k) by rw [inj_eW, isDue, if_pos e])) rfl)
  have n1 := of_decide_eq_false hb
  refine jb_nil ?_
  refine jb_cons (js_if (jt_cmp C (je_var 0) je_str .eqS) (fun hb => ?_) (fun hb => ?_))
  · have e := of_decide_eq_true hb
    refine jb_cons (js_ret (je_as (je_cmp C (je_as (je_tuple T.tuple (je_f (jf_sortedTI (W := WN) (ms := (sortL l).map fun a : Nat => (a : Int)) T.sorted (je_as (je_var 1) (eW_ints l)) ((sortL_perm l).map _) (pw_cast (sortL_pw l))))) (eW_ints (sortL l)).symm) (je_var 3) (.eq 1 (by decide) (sh_eW 0 _) (sh_eW 0 _))) (show _ = D.bl (isDue kd l k) by rw [inj_eW, isDue, if_neg n1, if_pos e])) rfl)
  have n2 := of_decide_eq_false hb
  refine jb_nil ?_
  refine jb_cons (js_ret (je_as (je_cmp C (je_as (je_tuple T.tuple (je_f (jf_sortSetT (ms := (setL l).map fun a : Nat => (a : Int)) (M := (List.range 60).map fun a : Nat => (a : Int)) C T.sorted T.set (je_as (je_var 1) (eW_ints l)) ?h1 ?h2 ?h3 (pw_castL (setL_pw l)) ?h4))) (eW_ints (setL l)).symm) (je_var 3) (.eq 1 (by decide) (sh_eW 0 _) (sh_eW 0 _))) (show _ = D.bl (isDue kd l k) by rw [inj_eW, isDue, if_neg n1, if_neg n2])) rfl)
  case h1 => rw [List.length_map]; omega
  case h2 =>
    intro x hx
    obtain ⟨a, ha, rfl⟩ := mem_cast.mp hx
    exact mem_cast.mpr ⟨a, List.mem_range.mpr (h60 a ha), rfl⟩
  case h3 => rw [List.length_map, List.length_range]; decide
  case h4 =>
    intro x
    rw [mem_cast, mem_cast]
    exact ⟨fun ⟨a, ha, e⟩ => ⟨a, (mem_setL (fun t ht => by have := h60 t ht; omega) a).mp ha, e⟩, fun ⟨a, ha, e⟩ => ⟨a, (mem_setL (fun t ht => by have := h60 t ht; omega) a).mpr ha, e⟩⟩
end
end Wk

namespace Wk
open PySem PySem.Spec PyProof.Rows L2 DL Sm
section
variable {Pg : Program} {w : World} {K : PySem.W.Frag} {mg : Str → Option Value} {base : Heap}
abbrev sTold : Stmt := topS 34
theorem scTold : FnScope ["_law_way", "_law_net_here", "_law_kind", "_law_row", "_law_kept", "_law_found", "e"] ["_law_way", "_law_net_here", "_law_kind", "_law_row"] (defScope sTold) := ⟨rfl, rfl, rfl, by decide +kernel, rfl, by decide +kernel, by decide +kernel⟩
/-- what is refused -/
def badT (a : Nat) (n : N3) (kd : Str) (row : List Vl) (j : Nat) : Prop := (¬ n.ok ∧ j = 1) ∨ ∃ m : Nt, m.good ∧ m.n3 = n ∧ ((kd ∉ kindsL ∧ j = 0) ∨ (a = 1 ∧ kd ∈ kindsL ∧ ¬ rowOk m.wide kd row ∧ j = 2))
def preTold : List D → Res → Prop := fun ds z => ∃ (a : Nat) (n : N3) (kd : Str) (row : List Vl) (j : Nat), a < 2 ∧ n.fit ∧ row.length ≤ 1000 ∧ badT a n kd row j ∧ ds = [.int (a : Nat), n.e, .str kd, .lst (row.map eV)] ∧ z = .ok (.str (refS.getD j ""))
structure Refs (K : PySem.W.Frag) (mg : Str → Option Value) (cS cK cN cR : Addr) : Prop where
  gS : mg "SumError" = some (.ref cS)
  rK : RefF K mg cK 0
  rN : RefF K mg cN 1
  rR : RefF K mg cR 2
  hK : PySem.W.exmOne K (.ref cK) (.ref cS) = some true
  hN : PySem.W.exmOne K (.ref cN) (.ref cS) = some true
  hR : PySem.W.exmOne K (.ref cR) (.ref cS) = some true
theorem fn_told {f : Addr} {fd : FuncData} (F : Fun K "_law_told" "_law_told" sTold f fd) (hb : Binds K fd ["_law_way", "_law_net_here", "_law_kind", "_law_row"] []) (hm : mg "_law_told" = some (.ref f)) {cK cN cS cR : Addr} (R : Refs K mg cS cK cN cR)
    (Fjudged : Fn Pg w K mg base "judged" 2 4 (preJudged cN cK)) (Frun : Fn Pg w K mg base "run" 3 3 (preRun cK cN cR)) (F_law_refusal : Fn Pg w K mg base "_law_refusal" 1 1 (preRefusal K mg)) : Fn Pg w K mg base "_law_told" 4 5 preTold := by
  refine fn_ok (ps := ["_law_way", "_law_net_here", "_law_kind", "_law_row"]) F scTold hb hm (fun ds r ⟨a, n, kd, row, j, _, _, _, _, h, _⟩ => by rw [h]; rfl) (by decide) fun cdv A outer s H E C ds r h => ?_
  have hSu : Names (cxOf (CX Pg w) Pg w K mg base ["_law_way", "_law_net_here", "_law_kind", "_law_row", "_law_kept", "_law_found", "e"] "_law_told" (defScope sTold) f cdv A outer s H E) "SumError" (.ref cS) := ⟨rfl, by decide, .inl R.gS⟩
  obtain ⟨a, n, kd, row, j, ha, hf, hl, h, rfl, rfl⟩ := h
  show JB _ _ _ ⟨[.d (.int (a : Nat)), .d n.e, .d (.str kd), .d (.lst (row.map eV)), .u, .u, .u], []⟩ _
  refine jb_cons (js_set 4 C je_non ?_)
  refine jb_cons (js_set 5 C je_non ?_)
  have a01 : ∀ {p : Prop}, decide ((a : Int) = 0) = true → a = 1 → p := fun h1 h2 => absurd (show a = 0 by have := of_decide_eq_true h1; omega) (by omega)
  have a10 : ∀ {p : Prop}, decide ((a : Int) = 0) = false → a = 0 → p := fun h1 h2 => absurd (show ¬ a = 0 by have := of_decide_eq_false h1; omega) (fun z => z h2)
  refine jb_cut (fun s' => ∃ c, RefF K mg c j ∧ s' = ⟨[.d (.int (a : Nat)), .d n.e, .d (.str kd), .d (.lst (row.map eV)), .d (.exc c), .d .non, .u], []⟩) (js_try 6 4 C hSu fun W pn xe C => ?_) ?_
  · rcases h with ⟨hok, rfl⟩ | ⟨m, hg, hm, ⟨hk, rfl⟩ | ⟨a1, hk, hr, rfl⟩⟩
    · refine jb_cons (js_setE 5 C (je_if (jt_cmp C (je_var 0) je_int .eqI) (fun _ => je_callE C Fjudged (by decide) (jd_cons (je_var 1) (jd_cons (je_var 2) jd_nil)) ⟨n, kd, hf, rfl, .inl ⟨hok, rfl⟩⟩) (fun _ => je_callE C Frun (by decide) (jd_cons (je_var 1) (jd_cons (je_var 2) (jd_cons (je_var 3) jd_nil))) ⟨n, kd, row, hf, hl, rfl, .inl ⟨hok, rfl⟩⟩)) ⟨R.hN, cN, R.rN, rfl⟩)
    · refine jb_cons (js_setE 5 C (je_if (jt_cmp C (je_var 0) je_int .eqI) (fun _ => je_callE C Fjudged (by decide) (jd_cons (je_var 1) (jd_cons (je_var 2) jd_nil)) ⟨n, kd, hf, rfl, .inr (.inl ⟨by rw [← hm]; exact hg.ok, hk, rfl⟩)⟩) (fun _ => je_callE C Frun (by decide) (jd_cons (je_var 1) (jd_cons (je_var 2) (jd_cons (je_var 3) jd_nil))) ⟨n, kd, row, hf, hl, rfl, .inr ⟨m, hg, hm, .inl ⟨hk, rfl⟩⟩⟩)) ⟨R.hK, cK, R.rK, rfl⟩)
    · refine jb_cons (js_setE 5 C (je_if (jt_cmp C (je_var 0) je_int .eqI) (fun hq => a01 hq a1) (fun _ => je_callE C Frun (by decide) (jd_cons (je_var 1) (jd_cons (je_var 2) (jd_cons (je_var 3) jd_nil))) ⟨n, kd, row, hf, hl, rfl, .inr ⟨m, hg, hm, .inr (.inl ⟨hk, hr, rfl⟩)⟩⟩)) ⟨R.hR, cR, R.rR, rfl⟩)
  · rintro s' ⟨c, rc, rfl⟩
    exact jb_cons (js_ret (je_if (jt_cmp C (je_var 4) je_non (by walk_at "c")) (fun hc => Bool.noConfusion (show false = true from hc)) (fun hc => je_call C F_law_refusal (by decide) (jd_cons (je_var 4) jd_nil) ⟨c, j, rc, rfl, rfl⟩)) rfl)
abbrev sRuns : Stmt := topS 35
theorem scRuns : FnScope ["_law_net_here", "_law_words_here", "_law_kind", "_law_row", "_law_out", "_law_thing", "_law_due", "_law_k", "_law_beginnings"] ["_law_net_here", "_law_words_here", "_law_kind", "_law_row"] (defScope sRuns) := ⟨rfl, rfl, rfl, by decide +kernel, rfl, by decide +kernel, by decide +kernel⟩
theorem preRun_ok {cK cN cR : Addr} {n : Nt} (hg : n.good) (h20 : n.steps.length ≤ 20) {kd : Str} (hk : kd ∈ kindsL) {row : List Vl} (hl : row.length = n.wide) (hs : rowS kd row) : preRun cK cN cR [n.e, .str kd, .lst (row.map eV)] (.ok (.lst ((runO n kd row).map eV))) :=
  ⟨n.n3, kd, row, hg.fit, by have := hg.w2; omega, by rw [n.e_n3], .inr ⟨n, hg, rfl, .inr (.inr ⟨hk, rowS_ok hl hs, rowS_small h20 hs, rfl⟩)⟩⟩
def preRuns : List D → Res → Prop := fun ds z => ∃ (n : Nt) (kd : Str) (row : List Vl), n.good ∧ n.steps.length ≤ 20 ∧ n.short ∧ kd ∈ kindsL ∧ row.length = n.wide ∧ rowS kd row ∧ ds = [n.e, .lst (n.words.map eW), .str kd, .lst (row.map eV)] ∧ z = .ok (.bl true)
theorem words_len (n : Nt) : n.words.length = n.wide + n.steps.length := evL_len _
theorem fn_runs {f : Addr} {fd : FuncData} (F : Fun K "_law_runs" "_law_runs" sRuns f fd) (hb : Binds K fd ["_law_net_here", "_law_words_here", "_law_kind", "_law_row"] []) (hm : mg "_law_runs" = some (.ref f)) (T : Bt mg) {cK cN cR : Addr}
    (Frun : Fn Pg w K mg base "run" 3 3 (preRun cK cN cR)) (Fplain : Fn Pg w K mg base "plain" 2 2 prePlain) (F_law_sum : Fn Pg w K mg base "_law_sum" 2 1 preSum) : Fn Pg w K mg base "_law_runs" 4 4 preRuns := by
  refine fn_ok (ps := ["_law_net_here", "_law_words_here", "_law_kind", "_law_row"]) F scRuns hb hm (fun ds r ⟨n, kd, row, _, _, _, _, _, _, h, _⟩ => by rw [h]; rfl) (by decide) fun cdv A outer s H E C ds r h => ?_
  obtain ⟨n, kd, row, hg, h20, hsh, hkd, hl, hs, rfl, rfl⟩ := h
  have g1 := hg.w1; have g2 := hg.w2; have g4 := hg.lo
  show JB _ _ _ ⟨[.d n.e, .d (.lst (n.words.map eW)), .d (.str kd), .d (.lst (row.map eV)), .u, .u, .u, .u, .u], []⟩ _
  have hlo : n.outs.length ≤ sizeLine := by rw [sizeLine_eq]; omega
  have hlw : (List.range n.wide).length ≤ sizeLine := by rw [List.length_range, sizeLine_eq]; omega
  refine jb_cons (js_setLc 6 C (lc_as (lc_map (f := fun o => eV ((runL n kd row).getD o (.i 0))) 4 n.outs C (ji_list (je_ix (je_var 0) je_int (by walk_at "i"))) (fun a ha _ _ _ _ _ C => ?e1) hlo) (show _ = ((runO n kd row).map eV) from (runO_map n kd row).symm)) ?_)
  case e1 =>
    have ho := hg.os a ha
    have xw : IxD (.lst (n.words.map eW)) (eN a) (eW (n.words.getD a [])) := ix_lst eW [] (by rw [words_len]; exact ho)
    have hwl := hsh a ho
    have hwl2 : (n.words.getD a []).length ≤ sizeLine := by rw [words_get, sizeLine_eq]; omega
    have hlt := wrd_lt n.steps hg.st a ho
    refine je_as (je_call C F_law_sum (by decide) (jd_cons (je_var 2) (jd_cons (je_as (je_f (jf_lc C (lc_map (f := fun t => eV (rowV row t)) 5 (n.words.getD a []) C (ji_tup (je_ix (je_var 1) (je_var 4) xw)) (fun b hb _ _ _ _ _ C => (je_ix (je_var 3) (je_var 5) (ix_lst eV (.i 0) (by rw [hl]; exact hlt b hb)))) hwl2))) (show _ = D.lst (((wrd n.wide n.steps a).map (rowV row)).map eV) by rw [List.map_map, words_get]; rfl)) jd_nil)) ⟨kd, _, fun z => wrd_ne n.steps hg.st a ho (List.map_eq_nil_iff.mp z), by rw [List.length_map]; exact hwl, fun v hv => ?_, rfl, rfl⟩) (congrArg eV (ev_word (opV_as kd) n.steps hg.st a ho).symm)
    obtain ⟨t, ht, rfl⟩ := List.mem_map.mp hv
    have := hs _ (rowV_mem (row := row) (t := t) (by rw [hl]; exact hlt t ht))
    exact ⟨this.1, this.2.1⟩
  refine jb_cons (js_setLc 8 C (lc_as (lc_map (f := fun k => eV ((plainL kd row).getD k (.i 0))) 7 (List.range n.wide) C (ji_range1 T.range (je_ix (je_var 0) je_int (by walk_at "i")) (by omega)) (fun a ha _ _ _ _ _ C => ?e2) hlw) (show _ = ((plainL kd row).map eV) by rw [plainL_map, hl])) ?_)
  case e2 =>
    have ha := List.mem_range.mp ha
    have tl : (row.take (a + 1)).length = a + 1 := by rw [List.length_take]; omega
    refine je_as (je_call C F_law_sum (by decide) (jd_cons (je_var 2) (jd_cons (je_f (jf_as (jf_cut (je_var 3) jo_none (jo_some (je_as (je_bin (je_var 7) je_int .addI) (show _ = D.int ((a + 1 : Nat) : Int) from rfl)))) (show _ = (row.take (a + 1)).map eV by rw [cut_take, List.map_take]))) jd_nil)) ⟨kd, _, fun z => by rw [z] at tl; simp at tl, by rw [tl]; omega, fun v hv => ?_, rfl, rfl⟩) (congrArg eV ?_)
    · have := hs v (List.mem_of_mem_take hv)
      exact ⟨this.1, this.2.1⟩
    · rw [plain_word kd row (by rw [hl]; exact ha), take_row (by rw [hl]; exact ha)]
  have sh1 : Sh 1 (.lst ((runO n kd row).map eV)) := sh_lst fun x hx => sh_eV 0 (run_okV hg hl (fun v hv => (hs v hv).2.2) x hx)
  have sh2 : Sh 1 (.lst ((plainL kd row).map eV)) := sh_lst fun x hx => sh_eV 0 (plain_okV (fun v hv => (hs v hv).2.2) x hx)
  have l1000 : row.length ≤ 1000 := by omega
  exact jb_cons (js_ret (je_and (β1 := true) (je_as (je_cmp C (je_call C Frun (by decide) (jd_cons (je_var 0) (jd_cons (je_var 2) (jd_cons (je_f (jf_list T.list (je_var 3) (.inl rfl))) jd_nil))) (preRun_ok hg h20 hkd hl hs)) (je_var 6) (.eq 1 (by decide) sh1 sh1)) (show _ = D.bl true by rw [eqv_self sh1])) (fun _ => (je_one (je_as (je_cmp C (je_call C Fplain (by decide) (jd_cons (je_var 2) (jd_cons (je_f (jf_list T.list (je_var 3) (.inl rfl))) jd_nil)) ⟨kd, row, l1000, hs, rfl, rfl⟩) (je_var 8) (.eq 1 (by decide) sh2 sh2)) (show _ = D.bl true by rw [eqv_self sh2])))) (fun z => Bool.noConfusion z)) rfl)
end
end Wk

namespace Wk
open PySem PySem.Spec PyProof.Rows L2 DL Sm
section
variable {Pg : Program} {w : World} {K : PySem.W.Frag} {mg : Str → Option Value} {base : Heap}
abbrev sLaw : Stmt := topS 36
theorem scLaw : FnScope ["_law_script", "_law_net_here", "_law_words_here", "_law_k", "_law_texts", "_law_numbers", "_law_kind", "_law_row", "_law_bad", "_law_found", "_law_way", "_law_rows"] ["_law_script"] (defScope sLaw) := ⟨rfl, rfl, rfl, by decide +kernel, rfl, by decide +kernel, by decide +kernel⟩
def preLaw : List D → Res → Prop := fun ds r => ∃ ns : List Int, ds = [.scr ns] ∧ r = .ok (.bl true)
theorem sh_two {n : Nat} {a b : D} (ha : Sh n a) (hb : Sh n b) : Sh (n + 1) (.tup [a, b]) := fun y hy => by
  rcases List.mem_cons.mp hy with h | hy
  · rw [h]; exact ha
  · rw [List.mem_singleton.mp hy]; exact hb
theorem textsV_e (ns : List Int) (w : Nat) : (textsV ns w).map eV = (List.range w).map fun k => D.str (textS ns k) := by rw [textsV, List.map_map]; rfl
theorem numsV_e (ns : List Int) (w : Nat) : (numsV ns w).map eV = (List.range w).map fun k => D.int (numI ns k) := by rw [numsV, List.map_map]; rfl
theorem not_rowA {n : Nt} (hg : n.good) {ns : List Int} : ¬ rowOk n.wide "any" (numsV ns n.wide) := fun z => by
  have g1 := hg.w1
  have h0 : (numsV ns n.wide).length = n.wide := by rw [numsV, List.length_map, List.length_range]
  have hm : (numsV ns n.wide).getD 0 (.i 0) ∈ numsV ns n.wide := getD_mem _ (by omega)
  have e1 := z.2 _ hm
  rw [nums_is _ hm] at e1
  exact absurd e1 (by decide)
theorem not_rowG {n : Nt} (hg : n.good) {ns : List Int} : ¬ rowOk n.wide "greatest" (textsV ns n.wide) := fun z => by
  have g1 := hg.w1
  have h0 : (textsV ns n.wide).length = n.wide := by rw [textsV, List.length_map, List.length_range]
  have hm : (textsV ns n.wide).getD 0 (.i 0) ∈ textsV ns n.wide := getD_mem _ (by omega)
  have e1 := z.2 _ hm
  rw [texts_is _ hm] at e1
  exact absurd e1 (by decide)
theorem fn_law {f : Addr} {fd : FuncData} (F : Fun K "law" "law" sLaw f fd) (hb : Binds K fd ["_law_script"] []) (hm : mg "law" = some (.ref f)) (T : Bt mg) {cK cN cR : Addr} (F_law_net : Fn Pg w K mg base "_law_net" 3 3 preNet) (F_law_right : Fn Pg w K mg base "_law_right" 3 24 preRight) (F_law_bent : Fn Pg w K mg base "_law_bent" 3 3 preBent)
    (F_law_mix : Fn Pg w K mg base "_law_mix" 2 2 preMix) (F_law_words : Fn Pg w K mg base "_law_words" 1 1 preWords) (F_law_runs : Fn Pg w K mg base "_law_runs" 4 4 preRuns) (F_law_is_due : Fn Pg w K mg base "_law_is_due" 3 1 preDue) (Fjudged : Fn Pg w K mg base "judged" 2 4 (preJudged cN cK)) (Frun : Fn Pg w K mg base "run" 3 3 (preRun cK cN cR)) (Fplain : Fn Pg w K mg base "plain" 2 2 prePlain)
    (F_law_told : Fn Pg w K mg base "_law_told" 4 5 preTold) (F_law_whole : Fn Pg w K mg base "_law_whole" 1 1 preWhole) : FnOk Pg w K mg base (L2.CX Pg w) 25 f fd ["_law_script"] (spD K preLaw) := by
  refine fn_okX (ps := ["_law_script"]) F scLaw hb hm (fun ds r ⟨ns, h, _⟩ => by rw [h]; rfl) (by decide) fun cdv A outer s H E C ds r h => ?_
  obtain ⟨ns, rfl, rfl⟩ := h
  show JB _ _ _ ⟨[.d (.scr ns), .u, .u, .u, .u, .u, .u, .u, .u, .u, .u, .u], []⟩ _
  refine jb_cons (js_set 1 C (je_call C F_law_net (by decide) (jd_cons (je_var 0) (jd_cons je_int (jd_cons je_int jd_nil))) ⟨ns, 0, 6, rfl, by decide, by decide, rfl⟩) ?_)
  refine jb_cut (fun s' => ∃ n : Nt, n.good ∧ n.steps.length ≤ 20 ∧ n.wide ≤ 6 ∧ n.short ∧ s' = ⟨[.d (.scr ns), .d n.e, .u, .u, .u, .u, .u, .u, .u, .u, .u, .u], []⟩) (js_if (jt_cmp C (je_bin (je_call C F_law_mix (by decide) (jd_cons (je_var 0) (jd_cons je_int jd_nil)) ⟨ns, 30, rfl, rfl⟩) je_int (by walk_at "b")) je_int (by walk_at "c")) (fun hb => ?_) (fun hb => ?_)) ?_
  · obtain ⟨hg0, hl0⟩ := rightN_good (ns := ns) (k := 32) (most := 6) (by decide) (by decide)
    have f0 := rightN_few (ns := ns) (k := 32)
    obtain ⟨bg, bw, bl⟩ := bentN_good hg0 (by omega) (mixN ns 31)
    refine jb_cons (js_set 1 C (je_call C F_law_bent (by decide) (jd_cons (je_var 0) (jd_cons je_int (jd_cons (je_call C F_law_right (by decide) (jd_cons (je_var 0) (jd_cons je_int (jd_cons je_int jd_nil))) ⟨ns, 32, 6, rfl, by decide, by decide, rfl⟩) jd_nil))) ⟨ns, 31, rightN ns 32 6, hg0, by omega, rfl, rfl⟩) ?_)
    exact jb_nil ⟨_, bg, by omega, by rw [bw]; exact (rWide_le (ns := ns) (k := 32) (most := 6) (by decide)).2, bent_short, rfl⟩
  · exact jb_nil ⟨_, netN_good (by decide) (by decide), by have := netN_few (ns := ns) (k := 0) (most := 6); omega, (wideN_le (ns := ns) (k := 0) (most := 6) (by decide)).2, net_short (by decide) (by decide), rfl⟩
  rintro s' ⟨n, hg, h20, h6, hsh, rfl⟩
  have g1 := hg.w1; have g2 := hg.w2; have g3 := hg.ls; have g4 := hg.lo
  have hlw : (List.range n.wide).length ≤ sizeLine := by rw [List.length_range, sizeLine_eq]; omega
  refine jb_cons (js_set 2 C (je_call C F_law_words (by decide) (jd_cons (je_var 1) jd_nil) ⟨n, hg, h20, rfl, rfl⟩) ?_)
  refine jb_cons (js_setLc 4 C (lc_as (lc_map (f := fun k => D.str (textS ns k)) 3 (List.range n.wide) C (ji_range1 T.range (je_ix (je_var 1) je_int (by walk_at "i")) (by omega)) (fun a ha _ _ _ _ _ C => ?e1) hlw) (show _ = ((textsV ns n.wide).map eV) from (textsV_e ns n.wide).symm)) ?_)
  case e1 =>
    have ha := List.mem_range.mp ha
    have hts : ((toString ((a : Nat) : Int) : Str)).length ≤ 1000 := by
      have := (thing_small a (by omega)).2.1
      omega
    exact je_ix (je_f (jf_lst (jd_cons je_str (jd_cons je_str (jd_cons je_str (jd_cons je_str (jd_cons (je_bin je_str (je_strI T.str (je_var 3) (thing_small a (by omega)).1) (.addS (show ("c" : Str).length + (toString ((a : Nat) : Int) : Str).length ≤ sizeLine by have e : ("c" : Str).length = 1 := rfl; rw [sizeLine_eq, e]; omega))) jd_nil))))))) (je_as (je_bin (je_call C F_law_mix (by decide) (jd_cons (je_var 0) (jd_cons (je_as (je_bin je_int (je_var 3) .addI) (show _ = D.int ((90 + a : Nat) : Int) from rfl)) jd_nil)) ⟨ns, 90 + a, rfl, rfl⟩) je_int (by walk_at "b")) (show _ = D.int ((mixN ns (90 + a) % 5 : Nat) : Int) from rfl)) (ix_lst D.str (l := [("" : Str), "a", "b", "ab", "c" ++ (toString ((a : Nat) : Int) : Str)]) "" (Nat.mod_lt _ (by decide)))
  refine jb_cons (js_setLc 5 C (lc_as (lc_map (f := fun k => D.int (numI ns k)) 3 (List.range n.wide) C (ji_range1 T.range (je_ix (je_var 1) je_int (by walk_at "i")) (by omega)) (fun a ha _ _ _ _ _ C => (je_bin (je_as (je_bin (je_call C F_law_mix (by decide) (jd_cons (je_var 0) (jd_cons (je_as (je_bin je_int (je_var 3) .addI) (show _ = D.int ((100 + a : Nat) : Int) from rfl)) jd_nil)) ⟨ns, 100 + a, rfl, rfl⟩) je_int (by walk_at "b")) (show _ = D.int ((mixN ns (100 + a) % 9 : Nat) : Int) from rfl)) je_int .subI)) hlw) (show _ = ((numsV ns n.wide).map eV) from (numsV_e ns n.wide).symm)) ?_)
  have hl3 : kindsL.length ≤ sizeLine := by rw [sizeLine_eq]; decide
  refine jb_cons (js_fold kindsL (fun (b : Unit) _ => b) () (fun _ => ⟨[.d (.scr ns), .d n.e, .d (.lst (n.words.map eW)), .u, .d (.lst ((textsV ns n.wide).map eV)), .d (.lst ((numsV ns n.wide).map eV)), .u, .u, .u, .u, .u, .u], []⟩) (fun _ _ => True) C (ji_tup (je_as (je_tup (jd_cons je_str (jd_cons je_str (jd_cons je_str jd_nil)))) (show _ = D.tup (kindsL.map .str) from rfl))) trivial ?_ ?_)
  · intro i kd b ha _ _
    have hkd : kd ∈ kindsL := List.mem_of_getElem? ha
    have hk3 := kinds3 hkd
    refine jg_name 6 C.nd ?_
    refine jb_cons (js_set 7 C (d := .lst ((drawnV ns n.wide kd).map eV)) (je_if (jt_cmp C (je_var 6) je_str .eqS) (fun hc => je_as (je_var 4) ?r1) (fun hc => je_as (je_var 5) ?r2)) ?_)
    case r1 => rw [drawnV, if_pos (of_decide_eq_true hc)]
    case r2 => rw [drawnV, if_neg (of_decide_eq_false hc)]
    have hrl := drawn_len ns n.wide kd
    have hrs := drawn_s (ns := ns) h6 kd
    generalize drawnV ns n.wide kd = row at *
    refine jb_cons (js_if (jt_as (jt_not (jt_val (je_call C F_law_runs (by decide) (jd_cons (je_var 1) (jd_cons (je_var 2) (jd_cons (je_var 6) (jd_cons (je_var 7) jd_nil)))) ⟨n, kd, row, hg, h20, hsh, hkd, hrl, hrs, rfl, rfl⟩))) (show _ = false from rfl)) (fun hq => Bool.noConfusion hq) (fun _ => ?_))
    refine jb_nil ?_
    refine jb_cons (js_setLc 8 C (lc_as (lc_filter (f := eN) 3 (List.range n.wide) (pr := badOut n kd) C (ji_range1 T.range (je_ix (je_var 1) je_int (by walk_at "i")) (by omega)) (fun a ha _ _ _ _ _ C => ?p1) (fun a ha hp _ _ _ _ _ C => (je_var 3)) hlw) (show _ = (badL n kd).map eN from rfl)) ?_)
    case p1 =>
      have ha := List.mem_range.mp ha
      have x0 : IxD (.lst (n.outs.map eN)) (.int (a : Nat)) (eN (n.outs.getD a 0)) := ix_lst eN 0 (by omega)
      have ho : n.outs.getD a 0 < n.wide + n.steps.length := hg.os _ (getD_mem 0 (by omega))
      have x1 : IxD (.lst (n.words.map eW)) (eN (n.outs.getD a 0)) (eW (n.words.getD (n.outs.getD a 0) [])) := ix_lst eW [] (by rw [words_len]; exact ho)
      refine jt_as (jt_not (jt_val (je_call C F_law_is_due (by decide) (jd_cons (je_var 6) (jd_cons (je_ix (je_var 2) (je_ix (je_ix (je_var 1) je_int (by walk_at "i")) (je_var 3) x0) x1) (jd_cons (je_var 3) jd_nil))) ⟨kd, n.word a, a, hsh _ ho, fun t ht => ?_, by omega, hkd, rfl, rfl⟩))) (bad_due hg ha hk3).symm
      have := (word_ok hg ha).2 t ht
      omega
    have okr : preRun cK cN cR [n.e, .str kd, .lst (row.map eV)] (.ok (.lst ((runO n kd row).map eV))) := preRun_ok hg h20 hkd hrl hrs
    have l1000 : row.length ≤ 1000 := by omega
    refine jb_cons (js_set 9 C (je_call C Fjudged (by decide) (jd_cons (je_var 1) (jd_cons (je_var 6) jd_nil)) (preJudged_ok hg hkd)) ?_)
    have shb : Sh 1 (eL (badL n kd)) := sh_lst fun x _ => sh_eN 0 x
    have she : Sh 1 (.lst ([].map eN)) := sh_lst (l := []) fun v hv => nomatch hv
    cases hw : wrongN n kd with
    | none =>
      have ej : judgN n kd = .tup ([("right" : Str)].map .str) := by rw [judgN, hw]; rfl
      rw [badL_none hw, ej]
      have shr : Sh 1 (.tup ([("right" : Str)].map .str)) := sh_tup fun x hx => by rw [List.mem_singleton.mp hx]; show PyData.strOk _ = true; decide +kernel
      have sh1 : Sh 1 (.lst ((plainL kd row).map eV)) := sh_lst fun x hx => sh_eV 0 (plain_okV (fun v hv => (hrs v hv).2.2) x hx)
      have er := run_right hg hk3 (rowS_ok hrl hrs) hw
      rw [er] at okr
      refine jb_cons (js_if (jt_as (jt_cmp C (je_var 8) (je_f (jf_lst jd_nil)) (.eq 1 (by decide) she she)) (show _ = true from rfl)) (fun hb => ?_) (fun hb => Bool.noConfusion hb))
      refine jb_cons (js_if (jt_as (jt_w (jw_or (jt_as (jt_cmp C (je_var 9) (je_as (je_tup (jd_cons je_str jd_nil)) (show _ = D.tup ([("right" : Str)].map .str) from rfl)) (.ne 1 (by decide) shr shr)) (show _ = false by rw [eqv_self shr]; rfl)) (jw_or1 (jt_as (jt_cmp C (je_call C Frun (by decide) (jd_cons (je_var 1) (jd_cons (je_var 6) (jd_cons (je_var 7) jd_nil))) okr) (je_call C Fplain (by decide) (jd_cons (je_var 6) (jd_cons (je_var 7) jd_nil)) ⟨kd, row, l1000, hrs, rfl, rfl⟩) (.ne 1 (by decide) sh1 sh1)) (show _ = false by rw [eqv_self sh1]; rfl))))) (show _ = false from rfl)) (fun hb => Bool.noConfusion hb) (fun hb => ?_))
      refine jb_nil ?_
      exact jb_nil (jb_fin (t := ⟨[.d (.scr ns), .d n.e, .d (.lst (n.words.map eW)), .u, .d (.lst ((textsV ns n.wide).map eV)), .d (.lst ((numsV ns n.wide).map eV)), .u, .u, .u, .u, .u, .u], []⟩) ⟨rfl, trivial⟩)
    | some k =>
      obtain ⟨br, ebr⟩ := badL_some hw
      have hkw : k < n.wide := List.mem_range.mp (List.mem_of_find?_eq_some hw)
      have ej : judgN n kd = .tup [.str "wrong", eN k, .lst ((brkV n kd k).map eV)] := by rw [judgN, hw, ← brkV_e]
      rw [ebr, ej]
      have bs := brkV_small h6 kd k
      have bl := (brkV_ok n kd k).1
      have bk := run_break hg h6 hk3 hw
      have lr := run_len hg kd (brkV n kd k)
      have lp := plain_len kd (brkV n kd k)
      have or := run_okV hg (kd := kd) bl (fun v hv => (bs v hv).2.2)
      have op := plain_okV (kd := kd) (fun v hv => (bs v hv).2.2)
      have okb : preRun cK cN cR [n.e, .str kd, .lst ((brkV n kd k).map eV)] (.ok (.lst ((runO n kd (brkV n kd k)).map eV))) := preRun_ok hg h20 hkd bl bs
      have lb : (brkV n kd k).length ≤ 1000 := by omega
      have shk : Sh 1 (.tup [.str "wrong", eN k]) := sh_two (show PyData.strOk _ = true by decide +kernel) (sh_eN 0 k)
      have shkr : Sh 1 (.lst ((k :: br).map eN)) := sh_lst fun x _ => sh_eN 0 x
      have xb : IxD (.lst ((k :: br).map eN)) (.int 0) (eN k) := ix_lst eN (l := k :: br) (i := 0) 0 (by rw [List.length_cons]; omega)
      have xr : IxD (.lst ((runO n kd (brkV n kd k)).map eV)) (.int (k : Nat)) (eV ((runO n kd (brkV n kd k)).getD k (.i 0))) := ix_lst eV (.i 0) (by omega)
      have xp : IxD (.lst ((plainL kd (brkV n kd k)).map eV)) (.int (k : Nat)) (eV ((plainL kd (brkV n kd k)).getD k (.i 0))) := ix_lst eV (.i 0) (by omega)
      have kr := or _ (getD_mem (.i 0) (show k < (runO n kd (brkV n kd k)).length by omega))
      have kp := op _ (getD_mem (.i 0) (show k < (plainL kd (brkV n kd k)).length by omega))
      refine jb_cons (js_if (jt_as (jt_cmp C (je_var 8) (je_f (jf_lst jd_nil)) (.eq 1 (by decide) shkr she)) (show _ = false from rfl)) (fun hb => Bool.noConfusion hb) (fun hb => ?_))
      refine jb_cons (js_if (jt_as (jt_w (jw_or (jt_as (jt_cmp C (je_len T.len (je_var 9) (by walk_at "len")) je_int .neI) (show _ = false from rfl)) (jw_or (jt_as (jt_cmp C (je_as (je_cutT (xs := [.str "wrong", eN k, .lst ((brkV n kd k).map eV)]) (je_var 9) jo_none (jo_some je_int) (show ¬ (HT.sIx 3 0 none = 0 ∧ HT.sIx 3 3 (some 2) = 3) by decide)) (show _ = D.tup [.str "wrong", eN k] from rfl)) (je_as (je_tup (jd_cons je_str (jd_cons (je_ix (je_var 8) je_int xb) jd_nil))) (show _ = D.tup [.str "wrong", eN k] from rfl)) (.ne 1 (by decide) shk shk)) (show _ = false by rw [eqv_self shk]; rfl)) (jw_or1 (jt_as (jt_not (jt_val (je_call C F_law_whole (by decide) (jd_cons (je_ix (je_var 9) je_int (by walk_at "i")) jd_nil) ⟨_, rfl, rfl⟩))) (show _ = false from rfl)))))) (show _ = false from rfl)) (fun hb => Bool.noConfusion hb) (fun hb => ?_))
      refine jb_nil ?_
      refine jb_cons (js_if (jt_as (jt_cmp C (je_ix (je_call C Frun (by decide) (jd_cons (je_var 1) (jd_cons (je_var 6) (jd_cons (je_ix (je_var 9) je_int (by walk_at "i")) jd_nil))) okb) (je_ix (je_var 8) je_int xb) xr) (je_ix (je_call C Fplain (by decide) (jd_cons (je_var 6) (jd_cons (je_ix (je_var 9) je_int (by walk_at "i")) jd_nil)) ⟨kd, _, lb, bs, rfl, rfl⟩) (je_ix (je_var 8) je_int xb) xp) (.eq 0 (by decide) (sh_eV 0 kr) (sh_eV 0 kp))) (show _ = false by rw [inj_eV]; exact decide_eq_false bk)) (fun hb => Bool.noConfusion hb) (fun hb => ?_))
      refine jb_nil ?_
      exact jb_nil (jb_fin (t := ⟨[.d (.scr ns), .d n.e, .d (.lst (n.words.map eW)), .u, .d (.lst ((textsV ns n.wide).map eV)), .d (.lst ((numsV ns n.wide).map eV)), .u, .u, .u, .u, .u, .u], []⟩) ⟨rfl, trivial⟩)
  intro _
  have hl2 : (List.range 2).length ≤ sizeLine := by rw [List.length_range, sizeLine_eq]; omega
  have ssk : PyData.strOk ("kind" : Str) = true := by decide +kernel
  have ssr : PyData.strOk ("row" : Str) = true := by decide +kernel
  have shk : Sh 1 (.lst ((List.replicate 2 ("kind" : Str)).map .str)) := sh_lst fun x hx => by rw [List.eq_of_mem_replicate hx]; exact ssk
  have shr : Sh 1 (.lst ((List.replicate 4 ("row" : Str)).map .str)) := sh_lst fun x hx => by rw [List.eq_of_mem_replicate hx]; exact ssr
  have nsome : ("some" : Str) ∉ kindsL := by decide
  refine jb_cons (js_if (jt_as (jt_cmp C (je_as (je_f (jf_lc C (lc_map (f := fun _ : Nat => D.str "kind") 10 (List.range 2) C (ji_range1 T.range je_int (by decide)) (fun a ha _ _ _ _ _ C => (je_call C F_law_told (by decide) (jd_cons (je_var 10) (jd_cons (je_var 1) (jd_cons je_str (jd_cons (je_f (jf_lst jd_nil)) jd_nil)))) ⟨a, n.n3, "some", [], 0, List.mem_range.mp ha, hg.fit, Nat.zero_le _, .inr ⟨n, hg, rfl, .inl ⟨nsome, rfl⟩⟩, by rw [n.e_n3]; rfl, rfl⟩)) hl2))) (show _ = D.lst ((List.replicate 2 ("kind" : Str)).map .str) from rfl)) (je_as (je_f (jf_rep1 (fun _ : Nat => D.str "kind") 0 2 (je_f (jf_lst (jd_cons je_str jd_nil))) je_int (by decide))) (show _ = D.lst ((List.replicate 2 ("kind" : Str)).map .str) from rfl)) (.ne 1 (by decide) shk shk)) (show _ = false by rw [eqv_self shk]; rfl)) (fun hq => Bool.noConfusion hq) (fun _ => ?_))
  refine jb_nil ?_
  have t0 : preTold [.int 0, .tup [.int 0, .lst [], .lst []], .str "some", .lst []] (.ok (.str "net")) := ⟨0, ⟨0, [], []⟩, "some", [], 1, by decide, ⟨Nat.zero_le _, Nat.zero_le _, fun _ z => nomatch z⟩, Nat.zero_le _, .inl ⟨fun z => by have := z.w1; exact absurd this (by decide), rfl⟩, rfl, rfl⟩
  have t1 : preTold [.int 1, .tup [.int 1, .lst [], .lst [.int 1]], .str "any", .lst []] (.ok (.str "net")) := ⟨1, ⟨1, [], [1]⟩, "any", [], 1, by decide, ⟨Nat.zero_le _, by decide, fun _ z => nomatch z⟩, Nat.zero_le _, .inl ⟨fun z => by
    have := z.os 1 List.mem_cons_self
    exact absurd this.2 (by decide), rfl⟩, rfl, rfl⟩
  refine jb_cons (js_if (jt_as (jt_w (jw_or (jt_as (jt_cmp C (je_call C F_law_told (by decide) (jd_cons je_int (jd_cons (je_tup (jd_cons je_int (jd_cons (je_f (jf_lst jd_nil)) (jd_cons (je_f (jf_lst jd_nil)) jd_nil)))) (jd_cons je_str (jd_cons (je_f (jf_lst jd_nil)) jd_nil)))) t0) je_str .neS) (show _ = false by rfl)) (jw_or1 (jt_as (jt_cmp C (je_call C F_law_told (by decide) (jd_cons je_int (jd_cons (je_tup (jd_cons je_int (jd_cons (je_f (jf_lst jd_nil)) (jd_cons (je_f (jf_lst (jd_cons je_int jd_nil))) jd_nil)))) (jd_cons je_str (jd_cons (je_f (jf_lst jd_nil)) jd_nil)))) t1) je_str .neS) (show _ = false by rfl))))) (show _ = false from rfl)) (fun hq => Bool.noConfusion hq) (fun _ => ?_))
  refine jb_nil ?_
  have nl : (numsV ns n.wide).length = n.wide := by rw [numsV, List.length_map, List.length_range]
  have tl : (textsV ns n.wide).length = n.wide := by rw [textsV, List.length_map, List.length_range]
  have bad : ∀ (kd : Str) (row : List Vl), kd ∈ kindsL → row.length ≤ 1000 → ¬ rowOk n.wide kd row → preTold [.int 1, n.e, .str kd, .lst (row.map eV)] (.ok (.str "row")) := fun kd row hk hl hr => ⟨1, n.n3, kd, row, 2, by decide, hg.fit, hl, .inr ⟨n, hg, rfl, .inr ⟨rfl, hk, hr, rfl⟩⟩, by rw [n.e_n3]; rfl, rfl⟩
  have b1 := bad "any" _ (by decide) (by omega) (not_rowA (ns := ns) hg)
  have b2 := bad "greatest" _ (by decide) (by omega) (not_rowG (ns := ns) hg)
  have b3 := bad "any" (textsV ns n.wide ++ [.s ""]) (by decide) (by rw [List.length_append, tl]; show _ + 1 ≤ _; omega) (fun z => by have := z.1; rw [List.length_append, tl] at this; have : n.wide + 1 = n.wide := this; omega)
  have b4 := bad "commuting" ((numsV ns n.wide).drop 1) (by decide) (by rw [List.length_drop]; omega) (fun z => by have := z.1; rw [List.length_drop, nl] at this; omega)
  refine jb_cons (js_new 11 C (jf_as (jf_lst (jd_cons (je_call C F_law_told (by decide) (jd_cons je_int (jd_cons (je_var 1) (jd_cons je_str (jd_cons (je_var 5) jd_nil)))) b1) (jd_cons (je_call C F_law_told (by decide) (jd_cons je_int (jd_cons (je_var 1) (jd_cons je_str (jd_cons (je_var 4) jd_nil)))) b2) jd_nil))) (show _ = ([.str "row", .str "row"] : List D) from rfl)) ?_)
  refine jb_cons (js_app 11 0 (je_view (je_call C F_law_told (by decide) (jd_cons je_int (jd_cons (je_var 1) (jd_cons je_str (jd_cons (je_as (je_f (jf_cat (je_var 4) (je_f (jf_lst (jd_cons je_str jd_nil))) ?m1)) (show _ = D.lst ((textsV ns n.wide ++ [Vl.s ""]).map eV) by rw [List.map_append]; rfl)) jd_nil)))) b3)) ?_ ?_)
  case m1 => rw [List.length_map, tl, sizeLine_eq]; show _ + 1 ≤ _; omega
  · rw [sizeLine_eq]; show 2 + 1 ≤ _; omega
  refine jb_freeze 11 0 ?_
  refine jb_cons (js_ret (je_as (je_cmp C (je_as (je_f (jf_cat (je_var 11) (je_f (jf_lst (jd_cons (je_call C F_law_told (by decide) (jd_cons je_int (jd_cons (je_var 1) (jd_cons je_str (jd_cons (je_f (jf_as (jf_cut (je_var 5) (jo_some je_int) jo_none) (show _ = ((numsV ns n.wide).drop 1).map eV from (cut_drop _ 1).trans List.map_drop.symm))) jd_nil)))) b4) jd_nil))) ?m2)) (show _ = D.lst ((List.replicate 4 ("row" : Str)).map .str) from rfl)) (je_as (je_f (jf_rep1 (fun _ : Nat => D.str "row") 0 4 (je_f (jf_lst (jd_cons je_str jd_nil))) je_int (by decide))) (show _ = D.lst ((List.replicate 4 ("row" : Str)).map .str) from rfl)) (.eq 1 (by decide) shr shr)) (show _ = D.bl true by rw [eqv_self shr])) rfl)
  case m2 => rw [sizeLine_eq]; show 3 + 1 ≤ _; omega
end
end Wk

namespace Wk
open PySem PySem.Spec PyProof.Rows L2 DL
/-! ### what the top has written -/
def dD (x : Str) (st : Stmt) : He.FnD := ⟨(x, none), x, x, defArgs st, defBody st, defScope st⟩
def dM (x m q : Str) (st : Stmt) : He.FnD := ⟨(x, some m), m, q, defArgs st, defBody st, defScope st⟩
/-- a tuple of texts -/
def strsOf : List Value → Option (List Str)
  | [] => some []
  | .str z _ :: r => (strsOf r).map (z :: ·)
  | _ :: _ => none
theorem strsOf_vals : ∀ {us : List Value} {zs : List Str}, strsOf us = some zs → Vals (zs.map V.str) us
  | [], zs, h => by
    have h : some [] = some zs := h
    cases h
    exact .nil
  | .str z t :: r, zs, h => by
    have h : (strsOf r).map (z :: ·) = some zs := h
    cases e : strsOf r with
    | none => rw [e] at h; cases h
    | some ys =>
      rw [e] at h
      have h : z :: ys = zs := Option.some.inj h
      subst h
      exact .cons ⟨t, rfl⟩ (strsOf_vals e)
  | .none :: _, _, h => nomatch h
  | .bool _ :: _, _, h => nomatch h
  | .int _ _ :: _, _, h => nomatch h
  | .ref _ :: _, _, h => nomatch h
  | .type _ :: _, _, h => nomatch h
  | .builtin _ :: _, _, h => nomatch h
/-- more words: what isinstance asks of an error of the class x; kit tests -/
inductive F2 where
  | err (x : Str)
  | kit (x y : Str) (b : Bool)
  | kitT (x : Str) (y : String) (b : Bool)
  | strT (x : Str) (zs : List Str)
def F2.ok (K : PySem.W.Frag) : F2 → Bool
  | .err x => He.eqO (PySem.W.findIn K (.ref (He.ga K x)) "__getattribute__") (some (some (.builtin "BaseException.__getattribute__"))) && (He.eqO (PySem.W.findIn K (.ref (He.ga K x)) "__getattr__") (some none) && (decide (PySem.W.subIn K (.ref (He.ga K x)) (.type "BaseException") = some true) && (PySem.W.hasDictIn K (He.ga K x) && (He.eqO (PySem.W.findIn K (.ref (He.ga K x)) "__class__") (some (some (.builtin "object.__class__"))) && (He.eqO (PySem.W.specialIn K (.builtin "object.__class__") "__get__") (some (some (.builtin "getset_descriptor.__get__"))) && (decide (PySem.W.takesIn K (.builtin "object.__class__") = some true) && decide (PySem.W.mroIn K (He.ga K x) (.type "object") = some true)))))))
  | .kit x y b => decide (PySem.W.kitOne K (.ref (He.ga K x)) (.ref (He.ga K y)) = some b)
  | .kitT x y b => decide (PySem.W.kitOne K (.ref (He.ga K x)) (.type y) = some b)
  | .strT x zs => (match K.lookup (He.ga K x) with
    | some ⟨.type "tuple", _, .seq its _, _⟩ => decide (strsOf its.toList = some zs) && decide (its.size ≤ 100)
    | _ => false)
def Says2 (l : List F2) (K : PySem.W.Frag) : Prop := (l.all fun f => f.ok K) = true
theorem Says2.fact {l : List F2} {K : PySem.W.Frag} (c : Says2 l K) (i : Nat) {f : F2} (h : l[i]? = some f := by rfl) : f.ok K = true := List.all_eq_true.mp c f (List.mem_of_getElem? h)
section
variable {K : PySem.W.Frag} {h : Heap} {mg : Str → Option Value} {P : Program} {w : World} {base : Heap}
theorem err_ok {x : Str} (c : (F2.err x).ok K = true) : ExcC K (He.ga K x) := by
  obtain ⟨c1, c⟩ := He.ba c
  obtain ⟨c2, c⟩ := He.ba c
  obtain ⟨c3, c⟩ := He.ba c
  obtain ⟨c4, c⟩ := He.ba c
  obtain ⟨c5, c⟩ := He.ba c
  obtain ⟨c6, c⟩ := He.ba c
  obtain ⟨c7, c8⟩ := He.ba c
  exact ⟨He.eqO_ok c1, He.eqO_ok c2, of_decide_eq_true c3, c4, He.eqO_ok c5, He.eqO_ok c6, of_decide_eq_true c7, of_decide_eq_true c8⟩
theorem kit_ok {x y : Str} {b : Bool} (c : (F2.kit x y b).ok K = true) : PySem.W.kitOne K (.ref (He.ga K x)) (.ref (He.ga K y)) = some b := of_decide_eq_true c
theorem kitT_ok {x : Str} {y : String} {b : Bool} (c : (F2.kitT x y b).ok K = true) : PySem.W.kitOne K (.ref (He.ga K x)) (.type y) = some b := of_decide_eq_true c
theorem strT_ok {x : Str} {zs : List Str} (c : (F2.strT x zs).ok K = true) : SqT K (fun _ => none) (He.ga K x) (zs.map V.str) := by
  have c2 : (match K.lookup (He.ga K x) with
    | some ⟨.type "tuple", _, .seq its _, _⟩ => decide (strsOf its.toList = some zs) && decide (its.size ≤ 100)
    | _ => false) = true := c
  split at c2
  · rename_i its n sl e
    obtain ⟨c3, c4⟩ := He.ba c2
    exact .inr ⟨_, _, _, e, rfl, rfl, Nat.le_trans (of_decide_eq_true c4) (by rw [sizeLine_eq]; decide), strsOf_vals (of_decide_eq_true c3)⟩
  · cases c2
theorem fun_at {fa : List He.Fa} {fn : List He.FnD} (c : He.SaysE fa fn K) (i : Nat) {x : Str} {st : Stmt} (hi : fn[i]? = some (dD x st)) (k : PySem.W.keepIn K (.ref (He.ga K x)) = true) :
    ∃ kV doc pm an cdv ct, Fun K x x st (He.ga K x) (PySem.W.fnOf x x (defArgs st) (defBody st) (defScope st) .none kV doc pm an cdv ct) := by
  obtain ⟨oc, od, osl, kV, doc, pm, an, cdv, ct, l, cc⟩ := c.def_ i hi
  exact ⟨kV, doc, pm, an, cdv, ct, fun_mk (st := st) l cc k⟩
theorem fun_atM {fa : List He.Fa} {fn : List He.FnD} (c : He.SaysE fa fn K) (i : Nat) {x m q : Str} {st : Stmt} (hi : fn[i]? = some (dM x m q st)) (k : PySem.W.keepIn K (.ref (He.ma K (He.ga K x) m)) = true) :
    ∃ kV doc pm an cdv ct, Fun K m q st (He.ma K (He.ga K x) m) (PySem.W.fnOf m q (defArgs st) (defBody st) (defScope st) .none kV doc pm an cdv ct) := by
  obtain ⟨oc, od, osl, kV, doc, pm, an, cdv, ct, l, cc⟩ := c.def_ i hi
  exact ⟨kV, doc, pm, an, cdv, ct, fun_mk (st := st) l cc k⟩
theorem exc_of (X : K.In h) (G : h.Ns mainGlobals mg) {x : Str} (g : (He.Fa.glo x).ok K = true) (c : (He.Fa.exc x).ok K = true) : ExcOf K mg x (He.ga K x) := by
  obtain ⟨c1, c2, c3, c4⟩ := He.exc_ok c
  exact ⟨c1, He.glo_ok X G g, c2, c3, c4⟩
theorem spD_law {pre : List D → Res → Prop} {H : Hp} {a : Addr} {ns : List Int} (hp : pre [.scr ns] (.ok (.bl true))) (hS : SqL K H a (ns.map V.int)) : spD K pre [.ref a] H (fun v _ => v = .bl true) fun _ _ _ => False :=
  ⟨H, [.scr ns], .ok (.bl true), fun _ _ z => z, .cons (.scr hS) .nil, hp, fun v B' H' _ _ r => by cases r; rfl⟩
theorem cx_no {P : Program} {w : World} {H : Hp} {s : Shared} {e : Value} {s' : Shared} (h : L2.CX P w [] H s (fun _ _ _ => False) e s') : False := by
  obtain ⟨a, B, H', cls, d, _, _, _, _, _, _, _, z⟩ := h
  exact z
end
end Wk

namespace Wk
open PySem PySem.Spec PyProof.Rows L2 DL Sm
def faL : List He.Fa := [.free "len", .free "range", .free "list", .free "tuple", .free "max", .free "min", .free "all", .free "any",
  .free "int", .free "str", .free "bool", .free "isinstance", .free "sorted", .free "set", .free "reversed", .free "ValueError",
  .glo "look_net", .keep "look_net", .glo "counts", .keep "counts", .glo "spans_of", .keep "spans_of", .glo "wrong_out", .keep "wrong_out",
  .glo "breaking_row", .keep "breaking_row", .glo "judged", .keep "judged", .glo "_law_cell", .keep "_law_cell", .glo "_law_mix", .keep "_law_mix",
  .glo "_law_net", .keep "_law_net", .glo "_law_cut", .keep "_law_cut", .glo "_law_right", .keep "_law_right", .glo "_law_bent", .keep "_law_bent",
  .glo "_law_refusal", .keep "_law_refusal", .glo "_law_whole", .keep "_law_whole", .glo "summed", .keep "summed", .glo "look_row", .keep "look_row",
  .glo "run", .keep "run", .glo "plain", .keep "plain", .glo "_law_words", .keep "_law_words", .glo "_law_sum", .keep "_law_sum",
  .glo "_law_is_due", .keep "_law_is_due", .glo "_law_told", .keep "_law_told", .glo "_law_runs", .keep "_law_runs", .glo "law", .keep "law",
  .glo "SumError", .glo "BadNet", .glo "BadRow", .glo "BadKind", .glo "Wrong", .glo "BadText", .glo "KINDS", .int "MOST_WIDE" 64,
  .int "MOST_STEPS" 500, .exc "BadNet", .exc "BadKind", .exc "BadRow", .exm "BadKind" "SumError" true, .exm "BadNet" "SumError" true, .exm "BadRow" "SumError" true]
def fnL : List He.FnD := [dD "look_net" sLook, dD "counts" sCounts, dD "spans_of" sSpans, dD "wrong_out" sWrong, dD "breaking_row" sBrk, dD "judged" sJudged, dD "_law_cell" sCell, dD "_law_mix" sMix, dD "_law_net" sNet, dD "_law_cut" sCut, dD "_law_right" sRight, dD "_law_bent" sBent, dD "_law_refusal" sRefusal, dD "_law_whole" sWhole, dD "summed" sSummed, dD "look_row" sRow, dD "run" sRun, dD "plain" sPlain, dD "_law_words" sWords, dD "_law_sum" sSum, dD "_law_is_due" sDue, dD "_law_told" sTold, dD "_law_runs" sRuns, dD "law" sLaw]
def f2L : List F2 := [.err "BadKind", .kitT "BadKind" "ValueError" true, .kit "BadKind" "BadKind" true, .kit "BadKind" "BadNet" false, .kit "BadKind" "BadRow" false, .kit "BadKind" "BadText" false, .kit "BadKind" "Wrong" false,
  .err "BadNet", .kitT "BadNet" "ValueError" true, .kit "BadNet" "BadKind" false, .kit "BadNet" "BadNet" true, .kit "BadNet" "BadRow" false, .kit "BadNet" "BadText" false, .kit "BadNet" "Wrong" false,
  .err "BadRow", .kitT "BadRow" "ValueError" true, .kit "BadRow" "BadKind" false, .kit "BadRow" "BadNet" false, .kit "BadRow" "BadRow" true, .kit "BadRow" "BadText" false, .kit "BadRow" "Wrong" false,
  .strT "KINDS" ["any", "commuting", "greatest"]]
theorem all_mk {K : PySem.W.Frag} {h : Heap} {mg : Str → Option Value} {P : Program} {w : World} {fa : Addr} (X : K.In h) (G : h.Ns mainGlobals mg) (hfa : mg "law" = some (.ref fa)) (c : He.SaysE faL fnL K) (c2 : Says2 f2L K) :
    ∃ fd : FuncData, (∀ (s : Shared) (u : Value), BindsTo s fd ⟨[u], []⟩ [("_law_script", u)]) ∧ ∀ base : Heap, K.In base → base.Ns mainGlobals mg → FnOk P w K mg base (L2.CX P w) 25 fa fd ["_law_script"] (spD K preLaw) := by
  have T : Bt mg := ⟨He.free_ok X G (c.fact 0), He.free_ok X G (c.fact 1), He.free_ok X G (c.fact 2), He.free_ok X G (c.fact 3), He.free_ok X G (c.fact 4), He.free_ok X G (c.fact 5), He.free_ok X G (c.fact 6), He.free_ok X G (c.fact 7), He.free_ok X G (c.fact 8), He.free_ok X G (c.fact 9), He.free_ok X G (c.fact 10), He.free_ok X G (c.fact 11), He.free_ok X G (c.fact 12), He.free_ok X G (c.fact 13), He.free_ok X G (c.fact 14), He.free_ok X G (c.fact 15)⟩
  have g_look_net : mg "look_net" = some (.ref (He.ga K "look_net")) := He.glo_ok X G (c.fact 16)
  have g_counts : mg "counts" = some (.ref (He.ga K "counts")) := He.glo_ok X G (c.fact 18)
  have g_spans_of : mg "spans_of" = some (.ref (He.ga K "spans_of")) := He.glo_ok X G (c.fact 20)
  have g_wrong_out : mg "wrong_out" = some (.ref (He.ga K "wrong_out")) := He.glo_ok X G (c.fact 22)
  have g_breaking_row : mg "breaking_row" = some (.ref (He.ga K "breaking_row")) := He.glo_ok X G (c.fact 24)
  have g_judged : mg "judged" = some (.ref (He.ga K "judged")) := He.glo_ok X G (c.fact 26)
  have g__law_cell : mg "_law_cell" = some (.ref (He.ga K "_law_cell")) := He.glo_ok X G (c.fact 28)
  have g__law_mix : mg "_law_mix" = some (.ref (He.ga K "_law_mix")) := He.glo_ok X G (c.fact 30)
  have g__law_net : mg "_law_net" = some (.ref (He.ga K "_law_net")) := He.glo_ok X G (c.fact 32)
  have g__law_cut : mg "_law_cut" = some (.ref (He.ga K "_law_cut")) := He.glo_ok X G (c.fact 34)
  have g__law_right : mg "_law_right" = some (.ref (He.ga K "_law_right")) := He.glo_ok X G (c.fact 36)
  have g__law_bent : mg "_law_bent" = some (.ref (He.ga K "_law_bent")) := He.glo_ok X G (c.fact 38)
  have g__law_refusal : mg "_law_refusal" = some (.ref (He.ga K "_law_refusal")) := He.glo_ok X G (c.fact 40)
  have g__law_whole : mg "_law_whole" = some (.ref (He.ga K "_law_whole")) := He.glo_ok X G (c.fact 42)
  have g_summed : mg "summed" = some (.ref (He.ga K "summed")) := He.glo_ok X G (c.fact 44)
  have g_look_row : mg "look_row" = some (.ref (He.ga K "look_row")) := He.glo_ok X G (c.fact 46)
  have g_run : mg "run" = some (.ref (He.ga K "run")) := He.glo_ok X G (c.fact 48)
  have g_plain : mg "plain" = some (.ref (He.ga K "plain")) := He.glo_ok X G (c.fact 50)
  have g__law_words : mg "_law_words" = some (.ref (He.ga K "_law_words")) := He.glo_ok X G (c.fact 52)
  have g__law_sum : mg "_law_sum" = some (.ref (He.ga K "_law_sum")) := He.glo_ok X G (c.fact 54)
  have g__law_is_due : mg "_law_is_due" = some (.ref (He.ga K "_law_is_due")) := He.glo_ok X G (c.fact 56)
  have g__law_told : mg "_law_told" = some (.ref (He.ga K "_law_told")) := He.glo_ok X G (c.fact 58)
  have g__law_runs : mg "_law_runs" = some (.ref (He.ga K "_law_runs")) := He.glo_ok X G (c.fact 60)
  have g_law : mg "law" = some (.ref (He.ga K "law")) := He.glo_ok X G (c.fact 62)
  have g_SumError : mg "SumError" = some (.ref (He.ga K "SumError")) := He.glo_ok X G (c.fact 64)
  have g_BadNet : mg "BadNet" = some (.ref (He.ga K "BadNet")) := He.glo_ok X G (c.fact 65)
  have g_BadRow : mg "BadRow" = some (.ref (He.ga K "BadRow")) := He.glo_ok X G (c.fact 66)
  have g_BadKind : mg "BadKind" = some (.ref (He.ga K "BadKind")) := He.glo_ok X G (c.fact 67)
  have g_Wrong : mg "Wrong" = some (.ref (He.ga K "Wrong")) := He.glo_ok X G (c.fact 68)
  have g_BadText : mg "BadText" = some (.ref (He.ga K "BadText")) := He.glo_ok X G (c.fact 69)
  have g_KINDS : mg "KINDS" = some (.ref (He.ga K "KINDS")) := He.glo_ok X G (c.fact 70)
  obtain ⟨t_MOST_WIDE, m_MOST_WIDE⟩ := He.int_ok X G (c.fact 71) (x := "MOST_WIDE") (i := 64)
  obtain ⟨t_MOST_STEPS, m_MOST_STEPS⟩ := He.int_ok X G (c.fact 72) (x := "MOST_STEPS") (i := 500)
  have x_BadNet : ExcOf K mg "BadNet" (He.ga K "BadNet") := exc_of X G (c.fact 65) (c.fact 73)
  have x_BadKind : ExcOf K mg "BadKind" (He.ga K "BadKind") := exc_of X G (c.fact 67) (c.fact 74)
  have x_BadRow : ExcOf K mg "BadRow" (He.ga K "BadRow") := exc_of X G (c.fact 66) (c.fact 75)
  have h_BadKind_SumError := He.exm_ok (c.fact 76) (x := "BadKind") (y := "SumError") (b := true)
  have h_BadNet_SumError := He.exm_ok (c.fact 77) (x := "BadNet") (y := "SumError") (b := true)
  have h_BadRow_SumError := He.exm_ok (c.fact 78) (x := "BadRow") (y := "SumError") (b := true)
  have R_BadKind : RefF K mg (He.ga K "BadKind") 0 := ⟨by decide, err_ok (c2.fact 0), ⟨_, _, _, _, _, ⟨g_BadKind, g_BadNet, g_BadRow, g_BadText, g_Wrong⟩, kit_ok (c2.fact 2), kit_ok (c2.fact 3), kit_ok (c2.fact 4), kit_ok (c2.fact 5), kit_ok (c2.fact 6)⟩, kitT_ok (c2.fact 1)⟩
  have R_BadNet : RefF K mg (He.ga K "BadNet") 1 := ⟨by decide, err_ok (c2.fact 7), ⟨_, _, _, _, _, ⟨g_BadKind, g_BadNet, g_BadRow, g_BadText, g_Wrong⟩, kit_ok (c2.fact 9), kit_ok (c2.fact 10), kit_ok (c2.fact 11), kit_ok (c2.fact 12), kit_ok (c2.fact 13)⟩, kitT_ok (c2.fact 8)⟩
  have R_BadRow : RefF K mg (He.ga K "BadRow") 2 := ⟨by decide, err_ok (c2.fact 14), ⟨_, _, _, _, _, ⟨g_BadKind, g_BadNet, g_BadRow, g_BadText, g_Wrong⟩, kit_ok (c2.fact 16), kit_ok (c2.fact 17), kit_ok (c2.fact 18), kit_ok (c2.fact 19), kit_ok (c2.fact 20)⟩, kitT_ok (c2.fact 15)⟩
  have s_KINDS := strT_ok (c2.fact 21) (x := "KINDS") (zs := ["any", "commuting", "greatest"])
  obtain ⟨_, _, _, _, _, _, F_look_net⟩ := fun_at c 0 (x := "look_net") (st := sLook) rfl (He.keep_ok (c.fact 17))
  have b_look_net := F_look_net.binds (ps := ["net"]) fun _ _ _ _ _ _ us hl => match us, hl with | [_], _ => rfl
  obtain ⟨_, _, _, _, _, _, F_counts⟩ := fun_at c 1 (x := "counts") (st := sCounts) rfl (He.keep_ok (c.fact 19))
  have b_counts := F_counts.binds (ps := ["net"]) fun _ _ _ _ _ _ us hl => match us, hl with | [_], _ => rfl
  obtain ⟨_, _, _, _, _, _, F_spans_of⟩ := fun_at c 2 (x := "spans_of") (st := sSpans) rfl (He.keep_ok (c.fact 21))
  have b_spans_of := F_spans_of.binds (ps := ["net"]) fun _ _ _ _ _ _ us hl => match us, hl with | [_], _ => rfl
  obtain ⟨_, _, _, _, _, _, F_wrong_out⟩ := fun_at c 3 (x := "wrong_out") (st := sWrong) rfl (He.keep_ok (c.fact 23))
  have b_wrong_out := F_wrong_out.binds (ps := ["net", "kind"]) fun _ _ _ _ _ _ us hl => match us, hl with | [_, _], _ => rfl
  obtain ⟨_, _, _, _, _, _, F_breaking_row⟩ := fun_at c 4 (x := "breaking_row") (st := sBrk) rfl (He.keep_ok (c.fact 25))
  have b_breaking_row := F_breaking_row.binds (ps := ["net", "kind", "out"]) fun _ _ _ _ _ _ us hl => match us, hl with | [_, _, _], _ => rfl
  obtain ⟨_, _, _, _, _, _, F_judged⟩ := fun_at c 5 (x := "judged") (st := sJudged) rfl (He.keep_ok (c.fact 27))
  have b_judged := F_judged.binds (ps := ["net", "kind"]) fun _ _ _ _ _ _ us hl => match us, hl with | [_, _], _ => rfl
  obtain ⟨_, _, _, _, _, _, F__law_cell⟩ := fun_at c 6 (x := "_law_cell") (st := sCell) rfl (He.keep_ok (c.fact 29))
  have b__law_cell := F__law_cell.binds (ps := ["_law_script", "_law_k"]) fun _ _ _ _ _ _ us hl => match us, hl with | [_, _], _ => rfl
  obtain ⟨_, _, _, _, _, _, F__law_mix⟩ := fun_at c 7 (x := "_law_mix") (st := sMix) rfl (He.keep_ok (c.fact 31))
  have b__law_mix := F__law_mix.binds (ps := ["_law_script", "_law_k"]) fun _ _ _ _ _ _ us hl => match us, hl with | [_, _], _ => rfl
  obtain ⟨_, _, _, _, _, _, F__law_net⟩ := fun_at c 8 (x := "_law_net") (st := sNet) rfl (He.keep_ok (c.fact 33))
  have b__law_net := F__law_net.binds (ps := ["_law_script", "_law_k", "_law_most"]) fun _ _ _ _ _ _ us hl => match us, hl with | [_, _, _], _ => rfl
  obtain ⟨_, _, _, _, _, _, F__law_cut⟩ := fun_at c 9 (x := "_law_cut") (st := sCut) rfl (He.keep_ok (c.fact 35))
  have b__law_cut := F__law_cut.binds (ps := ["_law_first", "_law_last", "_law_script", "_law_k", "_law_nodes", "_law_steps", "_law_wide"]) fun _ _ _ _ _ _ us hl => match us, hl with | [_, _, _, _, _, _, _], _ => rfl
  obtain ⟨_, _, _, _, _, _, F__law_right⟩ := fun_at c 10 (x := "_law_right") (st := sRight) rfl (He.keep_ok (c.fact 37))
  have b__law_right := F__law_right.binds (ps := ["_law_script", "_law_k", "_law_most"]) fun _ _ _ _ _ _ us hl => match us, hl with | [_, _, _], _ => rfl
  obtain ⟨_, _, _, _, _, _, F__law_bent⟩ := fun_at c 11 (x := "_law_bent") (st := sBent) rfl (He.keep_ok (c.fact 39))
  have b__law_bent := F__law_bent.binds (ps := ["_law_script", "_law_k", "_law_net_here"]) fun _ _ _ _ _ _ us hl => match us, hl with | [_, _, _], _ => rfl
  obtain ⟨_, _, _, _, _, _, F__law_refusal⟩ := fun_at c 12 (x := "_law_refusal") (st := sRefusal) rfl (He.keep_ok (c.fact 41))
  have b__law_refusal := F__law_refusal.binds (ps := ["_law_kept"]) fun _ _ _ _ _ _ us hl => match us, hl with | [_], _ => rfl
  obtain ⟨_, _, _, _, _, _, F__law_whole⟩ := fun_at c 13 (x := "_law_whole") (st := sWhole) rfl (He.keep_ok (c.fact 43))
  have b__law_whole := F__law_whole.binds (ps := ["_law_found"]) fun _ _ _ _ _ _ us hl => match us, hl with | [_], _ => rfl
  obtain ⟨_, _, _, _, _, _, F_summed⟩ := fun_at c 14 (x := "summed") (st := sSummed) rfl (He.keep_ok (c.fact 45))
  have b_summed := F_summed.binds (ps := ["kind", "one", "other"]) fun _ _ _ _ _ _ us hl => match us, hl with | [_, _, _], _ => rfl
  obtain ⟨_, _, _, _, _, _, F_look_row⟩ := fun_at c 15 (x := "look_row") (st := sRow) rfl (He.keep_ok (c.fact 47))
  have b_look_row := F_look_row.binds (ps := ["net", "kind", "row"]) fun _ _ _ _ _ _ us hl => match us, hl with | [_, _, _], _ => rfl
  obtain ⟨_, _, _, _, _, _, F_run⟩ := fun_at c 16 (x := "run") (st := sRun) rfl (He.keep_ok (c.fact 49))
  have b_run := F_run.binds (ps := ["net", "kind", "row"]) fun _ _ _ _ _ _ us hl => match us, hl with | [_, _, _], _ => rfl
  obtain ⟨_, _, _, _, _, _, F_plain⟩ := fun_at c 17 (x := "plain") (st := sPlain) rfl (He.keep_ok (c.fact 51))
  have b_plain := F_plain.binds (ps := ["kind", "row"]) fun _ _ _ _ _ _ us hl => match us, hl with | [_, _], _ => rfl
  obtain ⟨_, _, _, _, _, _, F__law_words⟩ := fun_at c 18 (x := "_law_words") (st := sWords) rfl (He.keep_ok (c.fact 53))
  have b__law_words := F__law_words.binds (ps := ["_law_net_here"]) fun _ _ _ _ _ _ us hl => match us, hl with | [_], _ => rfl
  obtain ⟨_, _, _, _, _, _, F__law_sum⟩ := fun_at c 19 (x := "_law_sum") (st := sSum) rfl (He.keep_ok (c.fact 55))
  have b__law_sum := F__law_sum.binds (ps := ["_law_kind", "_law_some"]) fun _ _ _ _ _ _ us hl => match us, hl with | [_, _], _ => rfl
  obtain ⟨_, _, _, _, _, _, F__law_is_due⟩ := fun_at c 20 (x := "_law_is_due") (st := sDue) rfl (He.keep_ok (c.fact 57))
  have b__law_is_due := F__law_is_due.binds (ps := ["_law_kind", "_law_word", "_law_out"]) fun _ _ _ _ _ _ us hl => match us, hl with | [_, _, _], _ => rfl
  obtain ⟨_, _, _, _, _, _, F__law_told⟩ := fun_at c 21 (x := "_law_told") (st := sTold) rfl (He.keep_ok (c.fact 59))
  have b__law_told := F__law_told.binds (ps := ["_law_way", "_law_net_here", "_law_kind", "_law_row"]) fun _ _ _ _ _ _ us hl => match us, hl with | [_, _, _, _], _ => rfl
  obtain ⟨_, _, _, _, _, _, F__law_runs⟩ := fun_at c 22 (x := "_law_runs") (st := sRuns) rfl (He.keep_ok (c.fact 61))
  have b__law_runs := F__law_runs.binds (ps := ["_law_net_here", "_law_words_here", "_law_kind", "_law_row"]) fun _ _ _ _ _ _ us hl => match us, hl with | [_, _, _, _], _ => rfl
  obtain ⟨kV, doc, pm, an, cdv, ct, F_law⟩ := fun_at c 23 (x := "law") (st := sLaw) rfl (He.keep_ok (c.fact 63))
  have b_law := F_law.binds (ps := ["_law_script"]) fun _ _ _ _ _ _ us hl => match us, hl with | [_], _ => rfl
  have e := hfa.symm.trans g_law
  cases e
  have key : ∀ base : Heap, FnOk P w K mg base (L2.CX P w) 25 (He.ga K "law") (PySem.W.fnOf "law" "law" (defArgs sLaw) (defBody sLaw) (defScope sLaw) .none kV doc pm an cdv ct) ["_law_script"] (spD K preLaw) := fun base => by
    have L1 := fn_look3 (Pg := P) (w := w) (base := base) F_look_net b_look_net g_look_net T x_BadNet m_MOST_WIDE m_MOST_STEPS
    have L2 := fn_counts (Pg := P) (w := w) (base := base) F_counts b_counts g_counts T L1
    have L3 := fn_spans (Pg := P) (w := w) (base := base) F_spans_of b_spans_of g_spans_of T
    have L4 := fn_wrong (Pg := P) (w := w) (base := base) F_wrong_out b_wrong_out g_wrong_out T L2 L3
    have L5 := fn_brk (Pg := P) (w := w) (base := base) F_breaking_row b_breaking_row g_breaking_row T L2
    have L6 := fn_judged (Pg := P) (w := w) (base := base) F_judged b_judged g_judged T x_BadKind ⟨⟨_, g_KINDS, s_KINDS⟩⟩ L1 L4 L5
    have L7 := fn_cell (Pg := P) (w := w) (base := base) F__law_cell b__law_cell g__law_cell T
    have L8 := fn_mix (Pg := P) (w := w) (base := base) F__law_mix b__law_mix g__law_mix T L7
    have Ln := fn_net (Pg := P) (w := w) (base := base) F__law_net b__law_net g__law_net T L8
    have Lc := fn_cut (Pg := P) (w := w) (base := base) F__law_cut b__law_cut g__law_cut T L8
    have Lr := fn_right (Pg := P) (w := w) (base := base) F__law_right b__law_right g__law_right T L8 Lc
    have Lb := fn_bent (Pg := P) (w := w) (base := base) F__law_bent b__law_bent g__law_bent T L8
    have L9 := fn_refusal (Pg := P) (w := w) (base := base) F__law_refusal b__law_refusal g__law_refusal T
    have Lw := fn_whole (Pg := P) (w := w) (base := base) F__law_whole b__law_whole g__law_whole T
    have R1 := fn_summed (Pg := P) (w := w) (base := base) F_summed b_summed g_summed T
    have R2 := fn_row (Pg := P) (w := w) (base := base) F_look_row b_look_row g_look_row T x_BadKind x_BadRow ⟨⟨_, g_KINDS, s_KINDS⟩⟩ L1
    have R3 := fn_run (Pg := P) (w := w) (base := base) F_run b_run g_run T R2 R1
    have R4 := fn_plain (Pg := P) (w := w) (base := base) F_plain b_plain g_plain T R1
    have A1 := fn_words (Pg := P) (w := w) (base := base) F__law_words b__law_words g__law_words T
    have A2 := fn_sum (Pg := P) (w := w) (base := base) F__law_sum b__law_sum g__law_sum T
    have A3 := fn_due (Pg := P) (w := w) (base := base) F__law_is_due b__law_is_due g__law_is_due T
    have A4 := fn_told (Pg := P) (w := w) (base := base) F__law_told b__law_told g__law_told ⟨g_SumError, R_BadKind, R_BadNet, R_BadRow, h_BadKind_SumError, h_BadNet_SumError, h_BadRow_SumError⟩ L6 R3 L9
    have A5 := fn_runs (Pg := P) (w := w) (base := base) F__law_runs b__law_runs g__law_runs T R3 R4 A2
    exact fn_law (Pg := P) (w := w) (base := base) F_law b_law g_law T Ln Lr Lb L8 A1 A5 A3 L6 R3 R4 A4 Lw
  exact ⟨_, fun s u => .of_eq rfl, fun base _ _ => key base⟩
end Wk
open PySem PySem.W PyProof.Rows
set_option maxHeartbeats 0 in
theorem PySem.Challenge.cw_sumspan_k10_whole_judged_holds : PySem.Challenge.rw_sumspan_k10_whole_judged.Holds := by
  w_on; o_law; k_head; (case hw => w_witness2)
  k_fill
  refine L2.walk_of (l := PySem.Challenge.rw_sumspan_k10_whole_judged) (n := 63) (k := 25) (x := "_law_script") (CX := fun w => L2.CX PySem.Challenge.pw_sumspan_k10_whole_judged w) (sp := fun w => DL.spD _ Wk.preLaw) rfl (by decide) rfl ⟨rfl, by decide, by decide⟩ (fun w h Y => PySem.W.kIn_of Y) ?F (fun w H a ns _ _ hS => Wk.spD_law ⟨ns, rfl, rfl⟩ hS) (fun _ _ _ _ _ z => Wk.cx_no z)
  case F =>
    intro w mg fa h KX G hmg
    exact Wk.all_mk KX G hmg (by show He.obsE _ _ _ = He.valE _; kernel_rfl) (by show List.all _ _ = true; kernel_rfl)


