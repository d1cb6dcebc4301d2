import PyProof.Rows.All
import Wide.All
import OpenK.AllK
import Wide.FinOn
import HandS.ForMost
import HandS.ForExc
import HandS.RevRange
import HandS.IsInst
import HandS.ExcIs
import HandS.ExcValue
import HandS.Deep
import HandS.Walk
import HandS.Conv
import HandS.SetFor
import KE.DataMinMax
import HandS.Dict
import HandS.Style
import HandS.NoneIn
import HandS.Iter
import HandS.TupSets
import HandS.SortInts
import HandS.Remove
import HandS.HeadHook1
import PySem.Challenge.RW_sumspan_k42_whole_rounds
set_option Elab.async false
set_option linter.all false
set_option maxRecDepth 100000
set_option maxHeartbeats 4000000
set_option pp.maxSteps 250
set_option Elab.async false
set_option linter.all false
set_option maxRecDepth 100000
set_option maxHeartbeats 4000000
/-! DLa: values as trees, owned cells, the state without a heap -/
namespace DL
open PySem PySem.Spec PyProof.Rows L2

/-- a value as a tree; scr: the script (read alone); exc: a caught error of the class at c -/
inductive D where
  | non | bl (b : Bool) | int (i : Int) | str (s : Str)
  | lst (xs : List D) | tup (xs : List D)
  | scr (ns : List Int)
  | exc (c : Addr)

def ExH (c a : Addr) : HO := .ext fun h => ∃ (oe : Obj) (vs : Array Value), h.get? a = some oe ∧ Zc (.ref c) none oe ∧ oe.data = .fields vs

mutual
inductive Rep (K : PySem.W.Frag) (B : Hp) : V → D → Prop
  | non : Rep K B .non .non
  | bl (b : Bool) : Rep K B (.bl b) (.bl b)
  | int (i : Int) : Rep K B (.int i) (.int i)
  | str (x : Str) : Rep K B (.str x) (.str x)
  | lst {a : Addr} {vs : List V} {ds : List D} : B a = some (.lst vs) → Reps K B vs ds → Rep K B (.ref a) (.lst ds)
  | tup {a : Addr} {vs : List V} {ds : List D} : SqT K B a vs → Reps K B vs ds → Rep K B (.ref a) (.tup ds)
  | scr {a : Addr} {ns : List Int} : SqL K B a (ns.map V.int) → Rep K B (.ref a) (.scr ns)
  | exc {a c : Addr} : B a = some (ExH c a) → Rep K B (.ref a) (.exc c)
inductive Reps (K : PySem.W.Frag) (B : Hp) : List V → List D → Prop
  | nil : Reps K B [] []
  | cons {v : V} {vs : List V} {d : D} {ds : List D} : Rep K B v d → Reps K B vs ds → Reps K B (v :: vs) (d :: ds)
end

theorem same_rd {H H' : Hp} {a : Addr} {u : HO} (e : Same H H') (h : Rd H a u) : Rd H' a u := by
  rcases h with h | ⟨o, h⟩
  · exact Or.inl (e a _ h)
  · exact Or.inr ⟨o, e a _ h⟩
theorem same_t {K : PySem.W.Frag} {H H' : Hp} {a : Addr} {xs : List V} (e : Same H H') (h : SqT K H a xs) : SqT K H' a xs := by
  rcases h with h | h
  · exact Or.inl (same_rd e h)
  · exact Or.inr h
theorem same_upd' {H : Hp} {p : Addr} {o : HO} (h : H p = none) : Same H (upd H p o) := fun b x e => by
  rw [upd_ne (ne_of_none e h)]
  exact e
section
variable {K : PySem.W.Frag} {B B' : Hp}
mutual
theorem Rep.mono (e : Same B B') : ∀ {d : D} {v : V}, Rep K B v d → Rep K B' v d
  | .non, _, h => by cases h; exact .non
  | .bl b, _, h => by cases h; exact .bl b
  | .int i, _, h => by cases h; exact .int i
  | .str x, _, h => by cases h; exact .str x
  | .lst ds, _, h => by
    cases h with
    | lst ha hs => exact .lst (e _ _ ha) (Reps.mono e hs)
  | .tup ds, _, h => by
    cases h with
    | tup ha hs => exact .tup (same_t e ha) (Reps.mono e hs)
  | .scr ns, _, h => by
    cases h with
    | scr ha => exact .scr (e.seq ha)
  | .exc c, _, h => by
    cases h with
    | exc ha => exact .exc (e _ _ ha)
theorem Reps.mono (e : Same B B') : ∀ {ds : List D} {vs : List V}, Reps K B vs ds → Reps K B' vs ds
  | [], _, h => by cases h; exact .nil
  | d :: ds, _, h => by
    cases h with
    | cons h1 h2 => exact .cons (Rep.mono e h1) (Reps.mono e h2)
end
theorem Reps.length : ∀ {ds : List D} {vs : List V}, Reps K B vs ds → vs.length = ds.length
  | [], _, h => by cases h; rfl
  | d :: ds, _, h => by
    cases h with
    | cons h1 h2 => rw [List.length_cons, List.length_cons, h2.length]
theorem Reps.get : ∀ {ds : List D} {vs : List V} {i : Nat} {d : D}, Reps K B vs ds → ds[i]? = some d → ∃ v, vs[i]? = some v ∧ Rep K B v d
  | [], _, i, d, h, e => by simp at e
  | d :: ds, _, 0, d', h, e => by
    cases h with
    | cons h1 h2 => simp at e; subst e; exact ⟨_, rfl, h1⟩
  | d :: ds, _, i + 1, d', h, e => by
    cases h with
    | cons h1 h2 =>
      obtain ⟨v, a, b⟩ := Reps.get (i := i) h2 (by simpa using e)
      exact ⟨v, by simpa using a, b⟩
theorem Reps.getV : ∀ {ds : List D} {vs : List V} {i : Nat} {v : V}, Reps K B vs ds → vs[i]? = some v → ∃ d, ds[i]? = some d ∧ Rep K B v d
  | [], _, i, d, h, e => by cases h; simp at e
  | d :: ds, _, 0, d', h, e => by
    cases h with
    | cons h1 h2 => simp at e; subst e; exact ⟨_, rfl, h1⟩
  | d :: ds, _, i + 1, d', h, e => by
    cases h with
    | cons h1 h2 =>
      obtain ⟨v, a, b⟩ := Reps.getV (i := i) h2 (by simpa using e)
      exact ⟨v, by simpa using a, b⟩
theorem Reps.append : ∀ {ds es : List D} {vs us : List V}, Reps K B vs ds → Reps K B us es → Reps K B (vs ++ us) (ds ++ es)
  | [], _, _, _, h, k => by cases h; exact k
  | d :: ds, _, _, _, h, k => by
    cases h with
    | cons h1 h2 => exact .cons h1 (Reps.append h2 k)
theorem Reps.set {v : V} {d : D} (r : Rep K B v d) : ∀ {ds : List D} {vs : List V} (i : Nat), Reps K B vs ds → Reps K B (vs.set i v) (ds.set i d)
  | [], _, _, h => by cases h; exact .nil
  | d :: ds, _, 0, h => by
    cases h with
    | cons h1 h2 => exact .cons r h2
  | d :: ds, _, i + 1, h => by
    cases h with
    | cons h1 h2 => exact .cons h1 (Reps.set r i h2)
theorem Reps.take : ∀ {ds : List D} {vs : List V} (i : Nat), Reps K B vs ds → Reps K B (vs.take i) (ds.take i)
  | [], _, i, h => by cases h; simp; exact .nil
  | d :: ds, _, 0, h => by simp; exact .nil
  | d :: ds, _, i + 1, h => by
    cases h with
    | cons h1 h2 => exact .cons h1 (Reps.take i h2)
theorem Reps.drop : ∀ {ds : List D} {vs : List V} (i : Nat), Reps K B vs ds → Reps K B (vs.drop i) (ds.drop i)
  | [], _, i, h => by cases h; simp; exact .nil
  | d :: ds, _, 0, h => h
  | d :: ds, _, i + 1, h => by
    cases h with
    | cons h1 h2 => exact Reps.drop i h2
theorem Reps.reverse {ds : List D} : ∀ {vs : List V}, Reps K B vs ds → Reps K B vs.reverse ds.reverse := by
  induction ds with
  | nil => intro vs h; cases h; exact .nil
  | cons d ds ih =>
    intro vs h
    cases h with
    | cons h1 h2 =>
      rw [List.reverse_cons, List.reverse_cons]
      exact Reps.append (ih h2) (.cons h1 .nil)
theorem Reps.eraseIdx : ∀ {ds : List D} {vs : List V} (i : Nat), Reps K B vs ds → Reps K B (vs.eraseIdx i) (ds.eraseIdx i)
  | [], _, i, h => by cases h; exact .nil
  | d :: ds, _, 0, h => by
    cases h with
    | cons h1 h2 => exact h2
  | d :: ds, _, i + 1, h => by
    cases h with
    | cons h1 h2 => exact .cons h1 (Reps.eraseIdx i h2)
theorem Reps.rep {ds : List D} {vs : List V} (h : Reps K B vs ds) : ∀ k : Nat, Reps K B (List.replicate k vs).flatten (List.replicate k ds).flatten
  | 0 => .nil
  | k + 1 => by
    rw [List.replicate_succ, List.replicate_succ, List.flatten_cons, List.flatten_cons]
    exact Reps.append h (Reps.rep h k)
/-- a list of ints -/
theorem Reps.ints {ns : List Int} : ∀ {vs : List V}, Reps K B vs (ns.map D.int) → vs = ns.map V.int := by
  induction ns with
  | nil => intro vs h; cases h; rfl
  | cons n ns ih =>
    intro vs h
    cases h with
    | cons h1 h2 =>
      cases h1
      rw [ih h2]
      rfl
theorem Reps.bls {ns : List Bool} : ∀ {vs : List V}, Reps K B vs (ns.map D.bl) → vs = ns.map V.bl := by
  induction ns with
  | nil => intro vs h; cases h; rfl
  | cons n ns ih =>
    intro vs h
    cases h with
    | cons h1 h2 =>
      cases h1
      rw [ih h2]
      rfl
theorem Reps.strs {ns : List Str} : ∀ {vs : List V}, Reps K B vs (ns.map D.str) → vs = ns.map V.str := by
  induction ns with
  | nil => intro vs h; cases h; rfl
  | cons n ns ih =>
    intro vs h
    cases h with
    | cons h1 h2 =>
      cases h1
      rw [ih h2]
      rfl
theorem Reps.of_ints : ∀ ns : List Int, Reps K B (ns.map V.int) (ns.map D.int)
  | [] => .nil
  | n :: ns => .cons (.int n) (Reps.of_ints ns)
theorem Reps.of_bls : ∀ ns : List Bool, Reps K B (ns.map V.bl) (ns.map D.bl)
  | [] => .nil
  | n :: ns => .cons (.bl n) (Reps.of_bls ns)
theorem Reps.of_strs : ∀ ns : List Str, Reps K B (ns.map V.str) (ns.map D.str)
  | [] => .nil
  | n :: ns => .cons (.str n) (Reps.of_strs ns)

mutual
/-- no list within: what such a value leans on is none of the cells -/
def D.nol : D → Bool
  | .non => true
  | .bl _ => true
  | .int _ => true
  | .str _ => true
  | .tup xs => D.nols xs
  | .lst _ => false
  | .scr _ => false
  | .exc _ => false
def D.nols : List D → Bool
  | [] => true
  | x :: xs => D.nol x && D.nols xs
end
theorem sqT_out {p : Addr} {us : List V} {a : Addr} {xs : List V} (h : SqT K (upd B p (.lst us)) a xs) : SqT K B a xs := by
  rcases h with (h | ⟨o, h⟩) | h
  · by_cases e : a = p
    · rw [e, upd_same] at h; cases h
    · rw [upd_ne e] at h; exact .inl (.inl h)
  · by_cases e : a = p
    · rw [e, upd_same] at h; cases h
    · rw [upd_ne e] at h; exact .inl (.inr ⟨o, h⟩)
  · exact .inr h
mutual
theorem Rep.out {p : Addr} {us : List V} : ∀ {d : D} {v : V}, D.nol d = true → Rep K (upd B p (.lst us)) v d → Rep K B v d
  | .non, _, _, h => by cases h; exact .non
  | .bl b, _, _, h => by cases h; exact .bl b
  | .int i, _, _, h => by cases h; exact .int i
  | .str x, _, _, h => by cases h; exact .str x
  | .lst ds, _, n, h => by simp [D.nol] at n
  | .tup ds, _, n, h => by
    cases h with
    | tup ha hs => exact .tup (sqT_out ha) (Reps.out (by simpa [D.nol] using n) hs)
  | .scr ns, _, n, h => by simp [D.nol] at n
  | .exc c, _, n, h => by simp [D.nol] at n
theorem Reps.out {p : Addr} {us : List V} : ∀ {ds : List D} {vs : List V}, D.nols ds = true → Reps K (upd B p (.lst us)) vs ds → Reps K B vs ds
  | [], _, _, h => by cases h; exact .nil
  | d :: ds, _, n, h => by
    cases h with
    | cons h1 h2 =>
      have n' : (D.nol d && D.nols ds) = true := by simpa [D.nols] using n
      rw [Bool.and_eq_true] at n'
      exact .cons (Rep.out n'.1 h1) (Reps.out n'.2 h2)
end
end

/-! ### the state -/
/-- a slot: nothing known; a value; a reference to a cell -/
inductive Sl where
  | u | d (x : D) | c (j : Nat)
/-- a cell: a list, a dict with tuples as keys, an instance, nothing known -/
inductive Cl where
  | lst (xs : List D) | dic (kvs : List (List Key × D)) | ins (C : Addr) (fs : List (Str × Sl)) | dead
structure A where
  sl : List Sl
  cl : List Cl

def SlOk (K : PySem.W.Frag) (B : Hp) (as : List Addr) (o : Option V) : Sl → Prop
  | .u => True
  | .d x => ∃ v, o = some v ∧ Rep K B v x
  | .c j => ∃ a, as[j]? = some a ∧ o = some (.ref a)
def ClOk (K : PySem.W.Frag) (B : Hp) (as : List Addr) (H : Hp) (a : Addr) : Cl → Prop
  | .lst ds => ∃ vs, H a = some (.lst vs) ∧ Reps K B vs ds
  | .dic kvs => ∃ kvs', H a = some (.dT kvs') ∧ kvs'.map (·.1) = kvs.map (·.1) ∧ Reps K B (kvs'.map (·.2)) (kvs.map (·.2))
  | .ins C fs => ∃ dx fs', H a = some (.ins C dx fs') ∧ fs'.map (·.1) = fs.map (·.1) ∧ ∀ (i : Nat) (x : Sl), (fs.map (·.2))[i]? = some x → SlOk K B as (fs'.map (·.2))[i]? x
  | .dead => True
def CsOk (K : PySem.W.Frag) (B : Hp) (as : List Addr) (H : Hp) (cl : List Cl) : Prop :=
  as.length = cl.length ∧ ∀ (j : Nat) (a : Addr) (c : Cl), as[j]? = some a → cl[j]? = some c → ClOk K B as H a c
def Cl.live : Cl → Prop
  | .dead => False
  | _ => True

/-- from (B, H) to (B', H'): only the cells change; what is new in B' was a cell or is new in H -/
structure Ext (as : List Addr) (B H : Hp) (as' : List Addr) (B' H' : Hp) : Prop where
  b : Same B B'
  k : ∀ a o, a ∉ as → H a = some o → H' a = some o
  n : ∀ a, B a = none → H a ≠ none → a ∉ as → B' a = none
  l : ∃ ns, as' = as ++ ns ∧ ∀ a ∈ ns, H a = none
  t : ∀ a, H a ≠ none → H' a ≠ none
theorem Ext.refl (as : List Addr) (B H : Hp) : Ext as B H as B H :=
  ⟨fun _ _ e => e, fun _ _ _ e => e, fun _ e _ _ => e, ⟨[], by simp, fun _ h => nomatch h⟩, fun _ e => e⟩
theorem Ext.trans {as as1 as2 : List Addr} {B H B1 H1 B2 H2 : Hp} (x : Ext as B H as1 B1 H1) (y : Ext as1 B1 H1 as2 B2 H2) : Ext as B H as2 B2 H2 := by
  obtain ⟨ns, rfl, hn⟩ := x.l
  have out : ∀ a, H a ≠ none → a ∉ as → a ∉ as ++ ns := fun a h ha hm => by
    rcases List.mem_append.mp hm with hm | hm
    · exact ha hm
    · exact h (hn a hm)
  refine ⟨x.b.trans y.b, fun a o ha e => y.k a o (out a (by rw [e]; exact fun z => nomatch z) ha) (x.k a o ha e), fun a e h ha => y.n a (x.n a e h ha) (x.t a h) (out a h ha), ?_, fun a h => y.t a (x.t a h)⟩
  obtain ⟨ms, rfl, hm⟩ := y.l
  refine ⟨ns ++ ms, by rw [List.append_assoc], fun a ha => ?_⟩
  rcases List.mem_append.mp ha with ha | ha
  · exact hn a ha
  · have q := hm a ha
    cases e : H a with
    | none => rfl
    | some o => exact absurd q (x.t a (by rw [e]; exact fun z => nomatch z))

structure Ok (K : PySem.W.Frag) (as : List Addr) (B H : Hp) (σ : L2.St) (s : A) : Prop where
  sm : Same B H
  nd : as.Nodup
  ht : ∀ a ∈ as, H a ≠ none
  nb : ∀ (j : Nat) (a : Addr) (c : Cl), as[j]? = some a → s.cl[j]? = some c → c.live → B a = none
  cs : CsOk K B as H s.cl
  ln : σ.length = s.sl.length
  sl : ∀ (i : Nat) (x : Sl), s.sl[i]? = some x → SlOk K B as (σ[i]?.join) x

section
variable {K : PySem.W.Frag} {as as' : List Addr} {B B' H H' : Hp} {σ : L2.St} {s s' : A}
theorem SlOk.mono {o : Option V} {x : Sl} (e : Same B B') (l : ∃ ns, as' = as ++ ns) (h : SlOk K B as o x) : SlOk K B' as' o x := by
  cases x with
  | u => exact True.intro
  | d x =>
    obtain ⟨v, a, r⟩ := h
    exact ⟨v, a, r.mono e⟩
  | c j =>
    obtain ⟨a, h1, h2⟩ := h
    obtain ⟨ns, rfl⟩ := l
    exact ⟨a, by rw [List.getElem?_append_left (List.getElem?_eq_some_iff.mp h1).1]; exact h1, h2⟩
theorem ClOk.mono {a : Addr} {c : Cl} (e : Same B B') (l : ∃ ns, as' = as ++ ns) (k : c.live → ∀ o, H a = some o → H' a = some o) (h : ClOk K B as H a c) : ClOk K B' as' H' a c := by
  cases c with
  | lst ds =>
    obtain ⟨vs, h1, h2⟩ := h
    exact ⟨vs, k True.intro _ h1, h2.mono e⟩
  | dic kvs =>
    obtain ⟨kvs', h1, h2, h3⟩ := h
    exact ⟨kvs', k True.intro _ h1, h2, h3.mono e⟩
  | ins C fs =>
    obtain ⟨dx, fs', h1, h2, h3⟩ := h
    exact ⟨dx, fs', k True.intro _ h1, h2, fun i x hx => (h3 i x hx).mono e l⟩
  | dead => exact True.intro
theorem ne_none {α : Type} {o : Option α} {x : α} (h : o = some x) : o ≠ none := by rw [h]; exact fun z => nomatch z
/-- a new thing, known for good -/
theorem Ok.new {p : Addr} {o : HO} (h : Ok K as B H σ s) (hp : H p = none) : Ok K as (upd B p o) (upd H p o) σ s ∧ Ext as B H as (upd B p o) (upd H p o) := by
  have hB : B p = none := h.sm.free hp
  have ne : ∀ a, H a ≠ none → a ≠ p := fun a ha e => ha (by rw [e]; exact hp)
  have sB : Same B (upd B p o) := same_upd' hB
  have sH : Same H (upd H p o) := same_upd' hp
  refine ⟨⟨fun a u e => ?_, h.nd, fun a ha => ?_, fun j a c h1 h2 h3 => ?_, ⟨h.cs.1, fun j a c h1 h2 => (h.cs.2 j a c h1 h2).mono sB ⟨[], by simp⟩ fun _ u e => sH _ _ e⟩, h.ln, fun i x hx => (h.sl i x hx).mono sB ⟨[], by simp⟩⟩,
    ⟨sB, fun a u _ e => sH _ _ e, fun a e1 e2 _ => by rw [upd_ne (ne a e2)]; exact e1, ⟨[], by simp, fun _ z => nomatch z⟩, fun a ha => by rw [upd_ne (ne a ha)]; exact ha⟩⟩
  · by_cases e1 : a = p
    · rw [e1, upd_same] at e ⊢; exact e
    · rw [upd_ne e1] at e ⊢; exact h.sm _ _ e
  · rw [upd_ne (ne a (h.ht a ha))]; exact h.ht a ha
  · rw [upd_ne (ne a (h.ht a (List.mem_of_getElem? h1)))]; exact h.nb j a c h1 h2 h3
/-- a new thing that the state does not speak of -/
theorem Ok.junk {p : Addr} {o : HO} (h : Ok K as B H σ s) (hp : H p = none) : Ok K as B (upd H p o) σ s ∧ Ext as B H as B (upd H p o) := by
  have ne : ∀ a, H a ≠ none → a ≠ p := fun a ha e => ha (by rw [e]; exact hp)
  have sH : Same H (upd H p o) := same_upd' hp
  exact ⟨⟨h.sm.trans sH, h.nd, fun a ha => by rw [upd_ne (ne a (h.ht a ha))]; exact h.ht a ha, h.nb, ⟨h.cs.1, fun j a c h1 h2 => (h.cs.2 j a c h1 h2).mono (fun _ _ e => e) ⟨[], by simp⟩ fun _ u e => sH _ _ e⟩, h.ln, h.sl⟩,
    ⟨fun _ _ e => e, fun a u _ e => sH _ _ e, fun a e1 _ _ => e1, ⟨[], by simp, fun _ z => nomatch z⟩, fun a ha => by rw [upd_ne (ne a ha)]; exact ha⟩⟩
/-- a new cell -/
theorem Ok.cell {p : Addr} {o : HO} {c : Cl} (h : Ok K as B H σ s) (hp : H p = none) (hc : ClOk K B (as ++ [p]) (upd H p o) p c) : Ok K (as ++ [p]) B (upd H p o) σ ⟨s.sl, s.cl ++ [c]⟩ ∧ Ext as B H (as ++ [p]) B (upd H p o) := by
  have hB : B p = none := h.sm.free hp
  have ne : ∀ a, H a ≠ none → a ≠ p := fun a ha e => ha (by rw [e]; exact hp)
  have sH : Same H (upd H p o) := same_upd' hp
  have hl := h.cs.1
  have split : ∀ {j : Nat} {a : Addr} {d : Cl}, (as ++ [p])[j]? = some a → (s.cl ++ [c])[j]? = some d → (as[j]? = some a ∧ s.cl[j]? = some d) ∨ (a = p ∧ d = c) := fun {j a d} h1 h2 => by
    by_cases hj : j < as.length
    · rw [List.getElem?_append_left hj] at h1
      rw [List.getElem?_append_left (by omega)] at h2
      exact .inl ⟨h1, h2⟩
    · rw [List.getElem?_append_right (by omega)] at h1
      rw [List.getElem?_append_right (by omega)] at h2
      rw [hl] at h1
      cases e : j - s.cl.length with
      | zero => rw [e] at h1 h2; simp at h1 h2; exact .inr ⟨h1.symm, h2.symm⟩
      | succ n => rw [e] at h1; simp at h1
  refine ⟨⟨h.sm.trans sH, ?_, fun a ha => ?_, fun j a d h1 h2 h3 => ?_, ⟨by simp [hl], fun j a d h1 h2 => ?_⟩, h.ln, fun i x hx => (h.sl i x hx).mono (fun _ _ e => e) ⟨[p], rfl⟩⟩,
    ⟨fun _ _ e => e, fun a u _ e => sH _ _ e, fun a e1 _ _ => e1, ⟨[p], rfl, fun a ha => by rw [List.mem_singleton.mp ha]; exact hp⟩, fun a ha => by rw [upd_ne (ne a ha)]; exact ha⟩⟩
  · rw [List.nodup_append]
    refine ⟨h.nd, by simp, fun a ha b hb => ?_⟩
    rw [List.mem_singleton.mp hb]
    exact ne a (h.ht a ha)
  · rcases List.mem_append.mp ha with ha | ha
    · rw [upd_ne (ne a (h.ht a ha))]; exact h.ht a ha
    · rw [List.mem_singleton.mp ha, upd_same]; exact fun z => nomatch z
  · rcases split h1 h2 with ⟨h1, h2⟩ | ⟨rfl, rfl⟩
    · exact h.nb j a d h1 h2 h3
    · exact hB
  · rcases split h1 h2 with ⟨h1, h2⟩ | ⟨rfl, rfl⟩
    · exact (h.cs.2 j a d h1 h2).mono (fun _ _ e => e) ⟨[p], rfl⟩ fun _ u e => sH _ _ e
    · exact hc
/-- a cell is written -/
theorem Ok.wr {a : Addr} {j : Nat} {c c' : Cl} {o : HO} (h : Ok K as B H σ s) (h1 : as[j]? = some a) (h2 : s.cl[j]? = some c) (h3 : c.live) (hc : ClOk K B as (upd H a o) a c') : Ok K as B (upd H a o) σ ⟨s.sl, s.cl.set j c'⟩ ∧ Ext as B H as B (upd H a o) := by
  have hB := h.nb j a c h1 h2 h3
  have ha := List.mem_of_getElem? h1
  have hj := (List.getElem?_eq_some_iff.mp h1).1
  have hl := h.cs.1
  have ix : ∀ {i : Nat}, as[i]? = some a → i = j := fun {i} e => nd_ix h.nd e h1
  refine ⟨⟨fun b u e => ?_, h.nd, fun b hb => ?_, fun i b d e1 e2 e3 => ?_, ⟨by simp [hl], fun i b d e1 e2 => ?_⟩, h.ln, h.sl⟩,
    ⟨fun _ _ e => e, fun b u hb e => ?_, fun b e1 _ _ => e1, ⟨[], by simp, fun _ z => nomatch z⟩, fun b hb => ?_⟩⟩
  · rw [upd_ne (ne_of_none e hB)]; exact h.sm _ _ e
  · by_cases e : b = a
    · rw [e, upd_same]; exact fun z => nomatch z
    · rw [upd_ne e]; exact h.ht b hb
  · by_cases e : i = j
    · subst e
      rw [h1] at e1; cases e1
      exact hB
    · dsimp only at e2
      rw [List.getElem?_set_ne (Ne.symm e)] at e2
      exact h.nb i b d e1 e2 e3
  · by_cases e : i = j
    · subst e
      rw [h1] at e1; cases e1
      dsimp only at e2
      rw [List.getElem?_set_self (by omega)] at e2; cases e2
      exact hc
    · dsimp only at e2
      rw [List.getElem?_set_ne (Ne.symm e)] at e2
      refine (h.cs.2 i b d e1 e2).mono (fun _ _ e => e) ⟨[], by simp⟩ fun _ u q => ?_
      rw [upd_ne (fun z => e (ix (by rw [← z]; exact e1)))]
      exact q
  · rw [upd_ne (fun z => hb (by rw [z]; exact ha))]; exact e
  · by_cases e : b = a
    · rw [e, upd_same]; exact fun z => nomatch z
    · rw [upd_ne e]; exact hb
/-- a cell is known for good from now on -/
theorem Ok.freeze {a : Addr} {j : Nat} {c : Cl} {o : HO} (h : Ok K as B H σ s) (h1 : as[j]? = some a) (h2 : s.cl[j]? = some c) (h3 : c.live) (ho : H a = some o) : Ok K as (upd B a o) H σ ⟨s.sl, s.cl.set j .dead⟩ ∧ Ext as B H as (upd B a o) H := by
  have hB := h.nb j a c h1 h2 h3
  have ha := List.mem_of_getElem? h1
  have hj := (List.getElem?_eq_some_iff.mp h1).1
  have hl := h.cs.1
  have sB : Same B (upd B a o) := same_upd' hB
  refine ⟨⟨fun b u e => ?_, h.nd, h.ht, fun i b d e1 e2 e3 => ?_, ⟨by simp [hl], fun i b d e1 e2 => ?_⟩, h.ln, fun i x hx => (h.sl i x hx).mono sB ⟨[], by simp⟩⟩,
    ⟨sB, fun b u hb e => e, fun b e1 _ e3 => by rw [upd_ne (fun z => e3 (by rw [z]; exact ha))]; exact e1, ⟨[], by simp, fun _ z => nomatch z⟩, fun b hb => hb⟩⟩
  · by_cases e1 : b = a
    · rw [e1, upd_same] at e; cases e; rw [e1]; exact ho
    · rw [upd_ne e1] at e; exact h.sm _ _ e
  · by_cases e : i = j
    · subst e
      dsimp only at e2
      rw [List.getElem?_set_self (by omega)] at e2; cases e2
      exact e3.elim
    · dsimp only at e2
      rw [List.getElem?_set_ne (Ne.symm e)] at e2
      rw [upd_ne (fun z => e (nd_ix h.nd e1 (by rw [z]; exact h1)))]
      exact h.nb i b d e1 e2 e3
  · by_cases e : i = j
    · subst e
      dsimp only at e2
      rw [List.getElem?_set_self (by omega)] at e2; cases e2
      exact True.intro
    · dsimp only at e2
      rw [List.getElem?_set_ne (Ne.symm e)] at e2
      exact (h.cs.2 i b d e1 e2).mono sB ⟨[], by simp⟩ fun _ u q => q
theorem join_set {i k : Nat} {o : Option V} (σ : L2.St) (hi : i < σ.length) : ((σ.set i o)[k]?).join = if k = i then o else (σ[k]?).join := by
  by_cases e : k = i
  · subst e
    rw [if_pos rfl, List.getElem?_set_self hi]
    rfl
  · rw [if_neg e, List.getElem?_set_ne (Ne.symm e)]
/-- a slot is stored -/
theorem Ok.store {i : Nat} {o : Option V} {x : Sl} (h : Ok K as B H σ s) (hi : i < s.sl.length) (hx : SlOk K B as o x) : Ok K as B H (σ.set i o) ⟨s.sl.set i x, s.cl⟩ where
  sm := h.sm
  nd := h.nd
  ht := h.ht
  nb := h.nb
  cs := h.cs
  ln := by simp [h.ln]
  sl := fun k y hy => by
    rw [join_set σ (by rw [h.ln]; exact hi)]
    by_cases e : k = i
    · subst e
      dsimp only at hy
      rw [List.getElem?_set_self hi] at hy; cases hy
      rw [if_pos rfl]
      exact hx
    · dsimp only at hy
      rw [List.getElem?_set_ne (Ne.symm e)] at hy
      rw [if_neg e]
      exact h.sl k y hy
/-- a slot told otherwise -/
theorem Ok.tell {i : Nat} {x : Sl} (h : Ok K as B H σ s) (hx : SlOk K B as (σ[i]?.join) x) : Ok K as B H σ ⟨s.sl.set i x, s.cl⟩ where
  sm := h.sm
  nd := h.nd
  ht := h.ht
  nb := h.nb
  cs := h.cs
  ln := by simp [h.ln]
  sl := fun k y hy => by
    by_cases e : k = i
    · subst e
      dsimp only at hy
      rw [List.getElem?_set] at hy
      split at hy
      · split at hy
        · cases hy; exact hx
        · cases hy
      · exact absurd rfl ‹_›
    · dsimp only at hy
      rw [List.getElem?_set_ne (Ne.symm e)] at hy
      exact h.sl k y hy
/-- less is known of the slots -/
inductive Les : List Sl → List Sl → Prop
  | nil : Les [] []
  | u {x : Sl} {l m : List Sl} : Les l m → Les (x :: l) (.u :: m)
  | eq {x : Sl} {l m : List Sl} : Les l m → Les (x :: l) (x :: m)
theorem Les.refl : ∀ l : List Sl, Les l l
  | [] => .nil
  | _ :: l => .eq (Les.refl l)
theorem Les.length : ∀ {l m : List Sl}, Les l m → l.length = m.length
  | _, _, .nil => rfl
  | _, _, .u h => by rw [List.length_cons, List.length_cons, h.length]
  | _, _, .eq h => by rw [List.length_cons, List.length_cons, h.length]
theorem Les.get : ∀ {l m : List Sl} {i : Nat} {x : Sl}, Les l m → m[i]? = some x → x = .u ∨ l[i]? = some x
  | _, _, _, _, .nil, e => by simp at e
  | _, _, 0, _, .u h, e => by simp at e; exact .inl e.symm
  | _, _, 0, _, .eq h, e => .inr e
  | _, _, i + 1, _, .u h, e => by simpa using Les.get (i := i) h (by simpa using e)
  | _, _, i + 1, _, .eq h, e => by simpa using Les.get (i := i) h (by simpa using e)
theorem Ok.less {l : List Sl} (h : Ok K as B H σ s) (e : Les s.sl l) : Ok K as B H σ ⟨l, s.cl⟩ where
  sm := h.sm
  nd := h.nd
  ht := h.ht
  nb := h.nb
  cs := h.cs
  ln := by rw [h.ln]; exact e.length
  sl := fun k y hy => by
    rcases e.get hy with rfl | q
    · exact True.intro
    · exact h.sl k y q
end
end DL
set_option Elab.async false
set_option linter.all false
set_option maxRecDepth 100000
set_option maxHeartbeats 4000000
set_option autoImplicit true
/-! DLb: judgements over the state: expressions -/
namespace DL
open PySem PySem.Spec PyProof.Rows L2

inductive Res where
  | ok (d : D) | er (c : Addr)

/-! ### the widest readings -/
def wE (X : Cx) (e : Expr) : TE := fun σ H Q => ∀ (pins : List (Addr × Obj)) (s : Shared), Inv X pins σ H s → wpAny (model X.prog X.w) X.A (eval e X.env) (EP X pins σ Q) X.xe s
theorem pe_w {X : Cx} {e : Expr} : PE X e (wE X e) := ⟨fun pins s σ H Q I h => h pins s I⟩
theorem wE_of {X : Cx} {e : Expr} {te : TE} {σ : L2.St} {H : Hp} {Q : VK} (h : PE X e te) (q : te σ H Q) : wE X e σ H Q := fun pins s I => h.run pins s σ H Q I q
def wT (X : Cx) (e : Expr) : TT := fun σ H Q => ∀ (pins : List (Addr × Obj)) (s : Shared), Inv X pins σ H s → wpAny (model X.prog X.w) X.A (isTrue e X.env (eval e X.env)) (TP X pins σ Q) X.xe s
theorem pt_w {X : Cx} {e : Expr} : PT X e (wT X e) := ⟨fun pins s σ H Q I h => h pins s I⟩
theorem wT_of {X : Cx} {e : Expr} {te : TT} {σ : L2.St} {H : Hp} {Q : Bool → Hp → Prop} (h : PT X e te) (q : te σ H Q) : wT X e σ H Q := fun pins s I => h.run pins s σ H Q I q
def wW (X : Cx) (e : Expr) : TT := fun σ H Q => ∀ (whole : Sem Value) (pins : List (Addr × Obj)) (s : Shared), Inv X pins σ H s → wpAny (model X.prog X.w) X.A (isTrue e X.env whole) (TP X pins σ Q) X.xe s
theorem pw_w {X : Cx} {e : Expr} : PW X e (wW X e) := ⟨fun wh pins s σ H Q I h => h wh pins s I⟩
theorem wW_of {X : Cx} {e : Expr} {te : TT} {σ : L2.St} {H : Hp} {Q : Bool → Hp → Prop} (h : PW X e te) (q : te σ H Q) : wW X e σ H Q := fun wh pins s I => h.run wh pins s σ H Q I q
def wA (X : Cx) (es : List Expr) : TA := fun σ H Q => ∀ (pos : Pos) (pins : List (Addr × Obj)) (s : Shared), Inv X pins σ H s → wpAny (model X.prog X.w) X.A (spliced (backTo pos (starEach es X.env))) (AP X pins σ Q) X.xe s
theorem pa_w {X : Cx} {es : List Expr} : PA X es (wA X es) := ⟨fun pos pins s σ H Q I h => h pos pins s I⟩
theorem wA_of {X : Cx} {es : List Expr} {te : TA} {σ : L2.St} {H : Hp} {Q : List V → Hp → Prop} (h : PA X es te) (q : te σ H Q) : wA X es σ H Q := fun pos pins s I => h.run pos pins s σ H Q I q
def wO (X : Cx) (e : Option Expr) : TO := fun σ H Q => ∀ (pins : List (Addr × Obj)) (s : Shared), Inv X pins σ H s → wpAny (model X.prog X.w) X.A (evalPart e X.env) (fun u s' => ∃ o H', Inv X pins σ H' s' ∧ IsPart u o ∧ Q o H') X.xe s
theorem po_w {X : Cx} {e : Option Expr} : PO X e (wO X e) := ⟨fun pins s σ H Q I h => h pins s I⟩
theorem wO_of {X : Cx} {e : Option Expr} {te : TO} {σ : L2.St} {H : Hp} {Q : Option Int → Hp → Prop} (h : PO X e te) (q : te σ H Q) : wO X e σ H Q := fun pins s I => h.run pins s σ H Q I q

/-! ### what is told of an expression -/
def OutE (K : PySem.W.Frag) (W : WX) (as : List Addr) (B H : Hp) (σ : L2.St) (s' : A) (Q : VK) : Res → Prop
  | .ok d => ∀ v B' H', Ext as B H as B' H' → Ok K as B' H' σ s' → Rep K B' v d → Q v H'
  | .er c => ∀ B' H', Ext as B H as B' H' → Ok K as B' H' σ s' → W (.ref c) none σ H'
/-- e comes to r, the state behind it is s' -/
def JE (X : Cx) (W : WX) (e : Expr) (s : A) (r : Res) (s' : A) : Prop := ∀ as B H σ, Ok X.K as B H σ s → ∀ Q : VK, OutE X.K W as B H σ s' Q r → wE X e σ H Q
/-- e comes to a new list -/
def JF (X : Cx) (e : Expr) (s : A) (xs : List D) (s' : A) : Prop := ∀ as B H σ, Ok X.K as B H σ s → ∀ Q : VK,
  (∀ p vs B' H', Ext as B H as B' H' → Ok X.K as B' H' σ s' → H p = none → B' p = none → H' p = some (.lst vs) → Reps X.K B' vs xs → Q (.ref p) H') → wE X e σ H Q
/-- a test comes to b -/
def JT (X : Cx) (e : Expr) (s : A) (b : Bool) : Prop := ∀ as B H σ, Ok X.K as B H σ s → ∀ Q : Bool → Hp → Prop, (∀ B' H', Ext as B H as B' H' → Ok X.K as B' H' σ s → Q b H') → wT X e σ H Q
def JW (X : Cx) (e : Expr) (s : A) (b : Bool) : Prop := ∀ as B H σ, Ok X.K as B H σ s → ∀ Q : Bool → Hp → Prop, (∀ B' H', Ext as B H as B' H' → Ok X.K as B' H' σ s → Q b H') → wW X e σ H Q
/-- arguments, all of them values -/
def JD (X : Cx) (es : List Expr) (s : A) (ds : List D) (s' : A) : Prop := ∀ as B H σ, Ok X.K as B H σ s → ∀ Q : List V → Hp → Prop, (∀ vs B' H', Ext as B H as B' H' → Ok X.K as B' H' σ s' → Reps X.K B' vs ds → Q vs H') → wA X es σ H Q
/-- arguments, values or cells -/
inductive ArgsOk (K : PySem.W.Frag) (B : Hp) (as : List Addr) : List V → List Sl → Prop
  | nil : ArgsOk K B as [] []
  | cons {v : V} {vs : List V} {x : Sl} {xs : List Sl} : SlOk K B as (some v) x → ArgsOk K B as vs xs → ArgsOk K B as (v :: vs) (x :: xs)
def JA (X : Cx) (es : List Expr) (s : A) (xs : List Sl) (s' : A) : Prop := ∀ as B H σ, Ok X.K as B H σ s → ∀ Q : List V → Hp → Prop, (∀ vs B' H', Ext as B H as B' H' → Ok X.K as B' H' σ s' → ArgsOk X.K B' as vs xs → Q vs H') → wA X es σ H Q
def JO (X : Cx) (e : Option Expr) (s : A) (o : Option Int) : Prop := ∀ as B H σ, Ok X.K as B H σ s → ∀ Q : Option Int → Hp → Prop, (∀ B' H', Ext as B H as B' H' → Ok X.K as B' H' σ s → Q o H') → wO X e σ H Q

/-- where a body stands -/
structure Cok (X : Cx) (W : WX) (k : Nat) : Prop where
  hr : Room k X.A
  tk : Takes X W
  calm : X.calm = true
  hp : PassesOwn (model X.prog X.w) X.A X.env X.xe
  nd : X.N.Nodup
def WN : WX := fun _ _ _ _ => False

section
variable {X : Cx} {W : WX} {k : Nat} {e a b c : Expr} {es : List Expr} {s s' s1 s2 s3 : A} {d d' da db dc : D} {r : Res} {ds : List D} {xs ys : List D} {pos p2 : Pos} {x : Str}
theorem je_of {te : TE} (h : PE X e te) (k : ∀ as B H σ, Ok X.K as B H σ s → ∀ Q : VK, (∀ v B' H', Ext as B H as B' H' → Ok X.K as B' H' σ s' → Rep X.K B' v d → Q v H') → te σ H Q) : JE X W e s (.ok d) s' :=
  fun as B H σ ok Q q => wE_of h (k as B H σ ok Q q)
theorem jt_of {te : TT} (h : PT X e te) (k : ∀ as B H σ, Ok X.K as B H σ s → ∀ Q : Bool → Hp → Prop, (∀ B' H', Ext as B H as B' H' → Ok X.K as B' H' σ s → Q β H') → te σ H Q) : JT X e s β :=
  fun as B H σ ok Q q => wT_of h (k as B H σ ok Q q)
theorem jw_of {te : TT} (h : PW X e te) (k : ∀ as B H σ, Ok X.K as B H σ s → ∀ Q : Bool → Hp → Prop, (∀ B' H', Ext as B H as B' H' → Ok X.K as B' H' σ s → Q β H') → te σ H Q) : JW X e s β :=
  fun as B H σ ok Q q => wW_of h (k as B H σ ok Q q)
theorem jf_of {te : TE} (h : PE X e te) (k : ∀ as B H σ, Ok X.K as B H σ s → ∀ Q : VK, (∀ p vs B' H', Ext as B H as B' H' → Ok X.K as B' H' σ s' → H p = none → B' p = none → H' p = some (.lst vs) → Reps X.K B' vs xs → Q (.ref p) H') → te σ H Q) : JF X e s xs s' :=
  fun as B H σ ok Q q => wE_of h (k as B H σ ok Q q)
theorem Ext.back {as as' : List Addr} {B H B' H' : Hp} {p : Addr} (x : Ext as B H as' B' H') (h : H' p = none) : H p = none := by
  cases e : H p with
  | none => rfl
  | some o => exact absurd h (x.t p (ne_none e))
theorem free_lt {as : List Addr} {B H : Hp} {σ : L2.St} {K : PySem.W.Frag} (h : Ok K as B H σ s) {p : Addr} (e : H p = none) : p ∉ as := fun z => h.ht p z e
/-- a new list is a value -/
theorem je_f (h : JF X e s xs s') : JE X W e s (.ok (.lst xs)) s' := fun as B H σ ok Q q => h as B H σ ok _ fun p vs B' H' x o hp hB hH hr => by
  have sB : Same B' (upd B' p (.lst vs)) := same_upd' hB
  refine q _ (upd B' p (.lst vs)) H' ⟨x.b.trans sB, x.k, fun y e1 e2 e3 => ?_, x.l, x.t⟩ ⟨fun y u e => ?_, o.nd, o.ht, fun j y c h1 h2 h3 => ?_, ⟨o.cs.1, fun j y c h1 h2 => (o.cs.2 j y c h1 h2).mono sB ⟨[], by simp⟩ fun _ _ z => z⟩, o.ln, fun i y hy => (o.sl i y hy).mono sB ⟨[], by simp⟩⟩ (.lst upd_same (hr.mono sB))
  · rw [upd_ne (fun z => e2 (by rw [z]; exact hp))]; exact x.n y e1 e2 e3
  · by_cases e1 : y = p
    · rw [e1, upd_same] at e; rw [e1, hH]; exact e
    · rw [upd_ne e1] at e; exact o.sm _ _ e
  · rw [upd_ne (fun z => free_lt ok hp (by rw [← z]; exact List.mem_of_getElem? h1))]; exact o.nb j y c h1 h2 h3
theorem je_as (h : JE X W e s (.ok d) s') (e' : d = d') : JE X W e s (.ok d') s' := e' ▸ h
theorem jt_as {β β' : Bool} (h : JT X e s β) (e' : β = β') : JT X e s β' := e' ▸ h
theorem jf_as (h : JF X e s xs s') (e' : xs = ys) : JF X e s ys s' := e' ▸ h

/-! ### names, constants -/
theorem slot_of {as : List Addr} {B H : Hp} {σ : L2.St} {K : PySem.W.Frag} (h : Ok K as B H σ s) {i : Nat} (e : s.sl[i]? = some (.d d)) : ∃ v, σ[i]? = some (some v) ∧ Rep K B v d := by
  obtain ⟨v, e1, r⟩ := h.sl i _ e
  refine ⟨v, ?_, r⟩
  cases q : σ[i]? with
  | none => rw [q] at e1; cases e1
  | some o => rw [q] at e1; exact congrArg some e1
theorem cell_of {as : List Addr} {B H : Hp} {σ : L2.St} {K : PySem.W.Frag} (h : Ok K as B H σ s) {i j : Nat} (e : s.sl[i]? = some (.c j)) : ∃ a, σ[i]? = some (some (.ref a)) ∧ as[j]? = some a := by
  obtain ⟨a, e1, e2⟩ := h.sl i _ e
  refine ⟨a, ?_, e1⟩
  cases q : σ[i]? with
  | none => rw [q] at e2; cases e2
  | some o => rw [q] at e2; exact congrArg some e2
theorem je_var (i : Nat) (hs : s.sl[i]? = some (.d d) := by rfl) (hN : X.N[i]? = some x := by rfl) (hv : Vis X.env.scope x := by first | exact Or.inl rfl | exact Or.inr (Or.inl rfl) | exact Or.inr (Or.inr rfl))
    (hd : (x == ("__debug__" : Str)) = false := by decide) (hcd : (x == ("__classdict__" : Str)) = false := by decide) : JE X W (.Name x pos) s (.ok d) s :=
  je_of (pe_var hN hv hd hcd) fun as B H σ ok Q q => by
    obtain ⟨v, e, r⟩ := slot_of ok hs
    exact ⟨v, e, q v B H (Ext.refl ..) ok r⟩
theorem je_c {v : V} (h : PE X e (tC v)) (r : ∀ B, Rep X.K B v d) : JE X W e s (.ok d) s := je_of h fun as B H σ ok Q q => q v B H (Ext.refl ..) ok (r B)
theorem je_int {i : Int} {j : Nat} : JE X W (.Constant (.int i) j pos) s (.ok (.int i)) s := je_c pe_int fun _ => .int i
theorem je_bl {i : Bool} {j : Nat} : JE X W (.Constant (.bool i) j pos) s (.ok (.bl i)) s := je_c pe_bl fun _ => .bl i
theorem je_non {j : Nat} : JE X W (.Constant .none j pos) s (.ok .non) s := je_c pe_non fun _ => .non
theorem je_str {i : Str} {j : Nat} : JE X W (.Constant (.str i) j pos) s (.ok (.str i)) s := je_c pe_str fun _ => .str i
theorem je_globI {i : Int} {t : Tok} (hm : X.mg x = some (.int i t)) (hg : Gl X x := by rfl) (hd : (x == ("__debug__" : Str)) = false := by decide) : JE X W (.Name x pos) s (.ok (.int i)) s := je_c (v := .int i) (pe_glob hg hm ⟨t, rfl⟩ hd) fun _ => .int i
theorem je_globS {i : Str} {t : Tok} (hm : X.mg x = some (.str i t)) (hg : Gl X x := by rfl) (hd : (x == ("__debug__" : Str)) = false := by decide) : JE X W (.Name x pos) s (.ok (.str i)) s := je_c (v := .str i) (pe_glob hg hm ⟨t, rfl⟩ hd) fun _ => .str i

/-! ### two in a row -/
theorem Ok.two {X : Cx} {W : WX} {a b : Expr} {s s1 s2 : A} {da db : D} (ha : JE X W a s (.ok da) s1) (hb : JE X W b s1 (.ok db) s2) {as : List Addr} {B H : Hp} {σ : L2.St} (ok : Ok X.K as B H σ s) {R : V → V → Hp → Prop}
    (h : ∀ x y B2 H2, Ext as B H as B2 H2 → Ok X.K as B2 H2 σ s2 → Rep X.K B2 x da → Rep X.K B2 y db → R x y H2) : wE X a σ H fun x H1 => wE X b σ H1 fun y H2 => R x y H2 :=
  ha as B H σ ok _ fun x B1 H1 e1 o1 r1 => hb as B1 H1 σ o1 _ fun y B2 H2 e2 o2 r2 => h x y B2 H2 (e1.trans e2) o2 (r1.mono e2.b) r2
theorem Ok.one {X : Cx} {W : WX} {a : Expr} {s s1 : A} {da : D} (ha : JE X W a s (.ok da) s1) {as : List Addr} {B H : Hp} {σ : L2.St} (ok : Ok X.K as B H σ s) {R : V → Hp → Prop}
    (h : ∀ x B1 H1, Ext as B H as B1 H1 → Ok X.K as B1 H1 σ s1 → Rep X.K B1 x da → R x H1) : wE X a σ H fun x H1 => R x H1 :=
  ha as B H σ ok _ fun x B1 H1 e1 o1 r1 => h x B1 H1 e1 o1 r1

/-! ### operators -/
inductive BinD : Operator → D → D → D → Prop
  | addI {i j : Int} : BinD .Add (.int i) (.int j) (.int (i + j))
  | subI {i j : Int} : BinD .Sub (.int i) (.int j) (.int (i - j))
  | mulI {i j : Int} (h : CMul i j) : BinD .Mult (.int i) (.int j) (.int (i * j))
  | divI {i j : Int} (h : CDiv i j) : BinD .FloorDiv (.int i) (.int j) (.int (i / j))
  | modI {i j : Int} (h : 0 < j) : BinD .Mod (.int i) (.int j) (.int (i % j))
  | addS {x y : Str} (h : x.length + y.length ≤ sizeLine) : BinD .Add (.str x) (.str y) (.str (x ++ y))
  | catT {xs ys : List D} (h : xs ≠ []) (hl : xs.length + ys.length ≤ sizeLine) : BinD .Add (.tup xs) (.tup ys) (.tup (xs ++ ys))
theorem je_bin {op : Operator} (ha : JE X W a s (.ok da) s1) (hb : JE X W b s1 (.ok db) s2) (h : BinD op da db d) : JE X W (.BinOp a op b pos) s (.ok d) s2 := by
  cases h with
  | addI =>
    refine je_of (pe_op op_add pe_w pe_w) fun as B H σ ok Q q => Ok.two ha hb ok fun x y B2 H2 e2 o2 rx ry => ?_
    cases rx; cases ry
    exact ⟨_, _, rfl, rfl, q _ B2 H2 e2 o2 (.int _)⟩
  | subI =>
    refine je_of (pe_op op_sub pe_w pe_w) fun as B H σ ok Q q => Ok.two ha hb ok fun x y B2 H2 e2 o2 rx ry => ?_
    cases rx; cases ry
    exact ⟨_, _, rfl, rfl, q _ B2 H2 e2 o2 (.int _)⟩
  | mulI hc =>
    refine je_of (pe_op op_mul pe_w pe_w) fun as B H σ ok Q q => Ok.two ha hb ok fun x y B2 H2 e2 o2 rx ry => ?_
    cases rx; cases ry
    exact ⟨_, _, rfl, rfl, hc, q _ B2 H2 e2 o2 (.int _)⟩
  | divI hc =>
    refine je_of (pe_op op_fdiv pe_w pe_w) fun as B H σ ok Q q => Ok.two ha hb ok fun x y B2 H2 e2 o2 rx ry => ?_
    cases rx; cases ry
    exact ⟨_, _, rfl, rfl, hc, q _ B2 H2 e2 o2 (.int _)⟩
  | modI hc =>
    refine je_of (pe_op op_mod pe_w pe_w) fun as B H σ ok Q q => Ok.two ha hb ok fun x y B2 H2 e2 o2 rx ry => ?_
    cases rx; cases ry
    exact ⟨_, _, rfl, rfl, hc, q _ B2 H2 e2 o2 (.int _)⟩
  | addS hc =>
    refine je_of (pe_op op_add_str pe_w pe_w) fun as B H σ ok Q q => Ok.two ha hb ok fun x y B2 H2 e2 o2 rx ry => ?_
    cases rx; cases ry
    exact ⟨_, _, rfl, rfl, hc, q _ B2 H2 e2 o2 (.str _)⟩
  | @catT xs ys hne hl =>
    refine je_of (pe_op op_catT pe_w pe_w) fun as B H σ ok Q q => Ok.two ha hb ok fun x y B2 H2 e2 o2 rx ry => ?_
    cases rx with
    | @tup pa va _ sa ra =>
      cases ry with
      | @tup pb vb _ sb rb =>
        have l1 := ra.length
        have l2 := rb.length
        refine ⟨_, _, va, vb, rfl, rfl, same_t o2.sm sa, same_t o2.sm sb, fun z => ?_, by omega, ?_, fun _ p hp => ?_⟩
        · rw [z] at l1
          exact hne (List.eq_nil_of_length_eq_zero l1.symm)
        · intro z
          rw [z] at l2
          have e : ys = [] := List.eq_nil_of_length_eq_zero l2.symm
          subst e
          rw [List.append_nil] at q
          exact q _ B2 H2 e2 o2 (.tup sa ra)
        · obtain ⟨o3, e3⟩ := o2.new (o := .tup (va ++ vb)) hp
          exact q _ _ _ (e2.trans e3) o3 (.tup (.inl (.inl upd_same)) ((ra.mono e3.b).append (rb.mono e3.b)))
theorem je_neg {i : Int} (ha : JE X W a s (.ok (.int i)) s1) : JE X W (.UnaryOp .USub a pos) s (.ok (.int (-i))) s1 :=
  je_of (pe_un un_neg pe_w) fun as B H σ ok Q q => Ok.one ha ok fun x B1 H1 e1 o1 r => by
    cases r
    exact ⟨i, rfl, q _ B1 H1 e1 o1 (.int _)⟩
/-- lists put together; a list so many times -/
theorem Ok.newF {K : PySem.W.Frag} {as : List Addr} {B H B2 H2 : Hp} {σ : L2.St} {s2 : A} {p : Addr} {vs : List V} {xs : List D} {Q : VK} (e2 : Ext as B H as B2 H2) (o2 : Ok K as B2 H2 σ s2) (hp : H2 p = none) (r : Reps K B2 vs xs)
    (q : ∀ p vs B' H', Ext as B H as B' H' → Ok K as B' H' σ s2 → H p = none → B' p = none → H' p = some (.lst vs) → Reps K B' vs xs → Q (.ref p) H') : Q (.ref p) (upd H2 p (.lst vs)) := by
  obtain ⟨o3, e3⟩ := o2.junk (o := .lst vs) hp
  exact q p vs B2 _ (e2.trans e3) o3 (e2.back hp) (o2.sm.free hp) upd_same r
theorem jf_cat (ha : JE X WN a s (.ok (.lst xs)) s1) (hb : JE X WN b s1 (.ok (.lst ys)) s2) (hl : xs.length + ys.length ≤ sizeLine) : JF X (.BinOp a .Add b pos) s (xs ++ ys) s2 :=
  jf_of (pe_op op_cat pe_w pe_w) fun as B H σ ok Q q => Ok.two ha hb ok fun x y B2 H2 e2 o2 rx ry => by
    cases rx with
    | @lst pa va _ sa ra =>
      cases ry with
      | @lst pb vb _ sb rb =>
        have l1 := ra.length
        have l2 := rb.length
        exact ⟨_, _, va, vb, rfl, rfl, o2.sm _ _ sa, o2.sm _ _ sb, by omega, fun p hp => Ok.newF e2 o2 hp (ra.append rb) q⟩
theorem jf_rep {n : Int} (ha : JE X WN a s (.ok (.lst xs)) s1) (hb : JE X WN b s1 (.ok (.int n)) s2) (h1 : -(2 ^ 63) ≤ n ∧ n < 2 ^ 63) (hl : xs.length * n.toNat ≤ sizeLine) : JF X (.BinOp a .Mult b pos) s (List.replicate n.toNat xs).flatten s2 :=
  jf_of (pe_op op_rep pe_w pe_w) fun as B H σ ok Q q => Ok.two ha hb ok fun x y B2 H2 e2 o2 rx ry => by
    cases ry
    cases rx with
    | @lst pa va _ sa ra =>
      have l1 := ra.length
      exact ⟨_, _, va, rfl, rfl, o2.sm _ _ sa, h1.1, h1.2, by rw [l1]; exact hl, fun p hp => Ok.newF e2 o2 hp (ra.rep _) q⟩

/-! ### displays -/
theorem jd_nil : JD X [] s [] s := fun as B H σ ok Q q => wA_of pa_nil (q [] B H (Ext.refl ..) ok .nil)
theorem jd_cons (ha : JE X WN e s (.ok d) s1) (hr : JD X es s1 ds s2) (hs : starEach (e :: es) X.env = (false, eval e X.env) :: starEach es X.env := by rfl) : JD X (e :: es) s (d :: ds) s2 :=
  fun as B H σ ok Q q => wA_of (pa_cons pe_w pa_w hs) (Ok.one ha ok fun x B1 H1 e1 o1 r => hr as B1 H1 σ o1 _ fun vs B2 H2 e2 o2 rr => q _ B2 H2 (e1.trans e2) o2 (.cons (r.mono e2.b) rr))
theorem je_tup {j : Nat} (h : JD X es s ds s1) (hl : ds.length ≤ sizeLine := by exact Nat.le_of_ble_eq_true rfl) : JE X W (.Tuple es j pos) s (.ok (.tup ds)) s1 :=
  je_of (pe_tup pa_w) fun as B H σ ok Q q => h as B H σ ok _ fun vs B1 H1 e1 o1 r => by
    have l := r.length
    refine ⟨by omega, fun p hp => ?_⟩
    obtain ⟨o3, e3⟩ := o1.new (o := .tup vs) hp
    exact q _ _ _ (e1.trans e3) o3 (.tup (.inl (.inl upd_same)) (r.mono e3.b))
theorem jf_lst (h : JD X es s ds s1) (hl : ds.length ≤ sizeLine := by exact Nat.le_of_ble_eq_true rfl) : JF X (.List es pos) s ds s1 :=
  jf_of (pe_lst pa_w) fun as B H σ ok Q q => h as B H σ ok _ fun vs B1 H1 e1 o1 r => by
    have l := r.length
    exact ⟨by omega, fun p hp => Ok.newF e1 o1 hp r q⟩

/-! ### items -/
theorem Reps.atI {K : PySem.W.Frag} {B : Hp} {ds : List D} {vs : List V} {i : Int} {d : D} (h : Reps K B vs ds) (e : L2.atI ds i = some d) : ∃ v, L2.atI vs i = some v ∧ Rep K B v d := by
  unfold L2.atI at e ⊢
  rw [h.length]
  cases q : ixN ds.length i with
  | none => rw [q] at e; cases e
  | some j =>
    rw [q] at e
    exact h.get e
inductive IxD : D → D → D → Prop
  | lst {xs : List D} {i : Int} {d : D} (h : L2.atI xs i = some d) : IxD (.lst xs) (.int i) d
  | tup {xs : List D} {i : Int} {d : D} (h : L2.atI xs i = some d) : IxD (.tup xs) (.int i) d
  | scr {ns : List Int} {i n : Int} (h : L2.atI ns i = some n) : IxD (.scr ns) (.int i) (.int n)
  | str {z : Str} {i : Int} {c : Nat} (hl : z.length ≤ sizeLine) (h : L2.atI z.cps.toList i = some c) : IxD (.str z) (.int i) (.str ⟨#[c]⟩)
theorem je_ix (ha : JE X W a s (.ok da) s1) (hb : JE X W b s1 (.ok db) s2) (h : IxD da db d) (hs : PlainIx b := by (intro _ _; rfl)) : JE X W (.Subscript a b pos) s (.ok d) s2 := by
  refine je_of (pe_ix ix_seq pe_w pe_w hs) fun as B H σ ok Q q => Ok.two ha hb ok fun x y B2 H2 e2 o2 rx ry => ?_
  cases h with
  | @lst xs i d h =>
    cases ry
    cases rx with
    | lst sa ra =>
      obtain ⟨v, h1, r⟩ := ra.atI h
      exact .inl ⟨_, _, i, v, rfl, rfl, .inl (.inl (o2.sm _ _ sa)), h1, q v B2 H2 e2 o2 r⟩
  | @tup xs i d h =>
    cases ry
    cases rx with
    | tup sa ra =>
      obtain ⟨v, h1, r⟩ := ra.atI h
      exact .inr (.inl ⟨_, _, i, v, rfl, rfl, same_t o2.sm sa, h1, q v B2 H2 e2 o2 r⟩)
  | @scr ns i n h =>
    cases ry
    cases rx with
    | scr sa =>
      refine .inl ⟨_, _, i, .int n, rfl, rfl, o2.sm.seq sa, ?_, q _ B2 H2 e2 o2 (.int n)⟩
      unfold L2.atI at h ⊢
      rw [List.length_map]
      cases e : ixN ns.length i with
      | none => rw [e] at h; cases h
      | some j =>
        rw [e] at h
        show (ns.map V.int)[j]? = _
        rw [List.getElem?_map]
        have h' : ns[j]? = some n := h
        rw [h']
        rfl
  | @str z i c hl h =>
    cases ry
    cases rx
    exact .inr (.inr ⟨z, i, c, rfl, rfl, hl, h, q _ B2 H2 e2 o2 (.str _)⟩)
theorem jo_none : JO X none s none := fun as B H σ ok Q q => wO_of po_none (q B H (Ext.refl ..) ok)
theorem jo_some {i : Int} (h : JE X WN e s (.ok (.int i)) s) : JO X (some e) s (some i) := fun as B H σ ok Q q => wO_of (po_some pe_w) (Ok.one h ok fun x B1 H1 e1 o1 r => by
  cases r
  exact ⟨i, rfl, q B1 H1 e1 o1⟩)
def cutG {α : Type} (xs : List α) (lo hi : Option Int) : List α := (xs.drop (HT.sIx xs.length 0 lo)).take (HT.sIx xs.length xs.length hi - HT.sIx xs.length 0 lo)
theorem Reps.cut {K : PySem.W.Frag} {B : Hp} {ds : List D} {vs : List V} (h : Reps K B vs ds) (lo hi : Option Int) : Reps K B (cutV vs lo hi) (cutG ds lo hi) := by
  unfold cutV cutG
  rw [h.length]
  exact (h.drop _).take _
theorem jf_cut {lo hi : Option Expr} {l u : Option Int} (ha : JE X WN a s (.ok (.lst xs)) s) (hl : JO X lo s l) (hu : JO X hi s u) : JF X (.Subscript a (.Slice lo hi none p2) pos) s (cutG xs l u) s :=
  jf_of (pe_slice sl_list pe_w po_w po_w) fun as B H σ ok Q q => Ok.one ha ok fun x B1 H1 e1 o1 r => hl as B1 H1 σ o1 _ fun B2 H2 e2 o2 => hu as B2 H2 σ o2 _ fun B3 H3 e3 o3 => by
    cases r with
    | lst sa ra => exact ⟨_, _, rfl, .inl (.inl (o3.sm _ _ (e3.b _ _ (e2.b _ _ sa)))), fun p hp => Ok.newF ((e1.trans e2).trans e3) o3 hp ((ra.mono (e2.b.trans e3.b)).cut l u) q⟩

/-! ### reading the cells as values -/
def vwS (cl : List Cl) : Sl → Sl
  | .u => .u
  | .d x => .d x
  | .c j => match cl[j]? with
    | some (.lst xs) => .d (.lst xs)
    | _ => .u
def A.pv (s : A) : A := ⟨s.sl.map (vwS s.cl), []⟩
def vwB (as : List Addr) (B H : Hp) : Hp := fun y => match B y with
  | some u => some u
  | none => if y ∈ as then (match H y with
    | some (.lst vs) => some (.lst vs)
    | _ => none) else none
def cutB (as : List Addr) (B B' : Hp) : Hp := fun y => match B y with
  | some _ => B' y
  | none => if y ∈ as then none else B' y
section
variable {K : PySem.W.Frag} {as : List Addr} {B B' H H' : Hp} {σ : L2.St}
theorem vwB_some {y : Addr} {u : HO} (h : B y = some u) : vwB as B H y = some u := by unfold vwB; rw [h]
theorem vwB_same (h : Same B H) : Same (vwB as B H) H := fun y u e => by
  unfold vwB at e
  cases q : B y with
  | some w => rw [q] at e; cases e; exact h _ _ q
  | none =>
    rw [q] at e
    dsimp only at e
    split at e
    · split at e
      · cases e; assumption
      · cases e
    · cases e
theorem Ok.view (ok : Ok K as B H σ s) : Ok K [] (vwB as B H) H σ s.pv where
  sm := vwB_same ok.sm
  nd := List.nodup_nil
  ht := fun _ h => nomatch h
  nb := fun j a c h => by simp at h
  cs := ⟨rfl, fun j a c h => by simp at h⟩
  ln := by
    rw [ok.ln]
    exact (List.length_map (as := s.sl) (vwS s.cl)).symm
  sl := fun i x hx => by
    have hx' : (s.sl.map (vwS s.cl))[i]? = some x := hx
    rw [List.getElem?_map] at hx'
    cases q : s.sl[i]? with
    | none => rw [q] at hx'; cases hx'
    | some y =>
      rw [q] at hx'
      have e : vwS s.cl y = x := Option.some.inj hx'
      have sB : Same B (vwB as B H) := fun y u e => vwB_some e
      cases y with
      | u => rw [← e]; exact True.intro
      | d z =>
        rw [← e]
        obtain ⟨v, h1, h2⟩ := ok.sl i _ q
        exact ⟨v, h1, h2.mono sB⟩
      | c j =>
        cases r : s.cl[j]? with
        | none => rw [← e]; simp only [vwS, r]; exact True.intro
        | some c =>
          cases c with
          | lst xs =>
            rw [← e]
            simp only [vwS, r]
            obtain ⟨a, h1, h2⟩ := ok.sl i _ q
            obtain ⟨vs, hH, hv⟩ := ok.cs.2 j a _ h1 r
            have hB := ok.nb j a _ h1 r True.intro
            refine ⟨.ref a, h2, .lst (vs := vs) ?_ (hv.mono sB)⟩
            unfold vwB
            rw [hB]
            dsimp only
            rw [if_pos (List.mem_of_getElem? h1), hH]
          | dic kvs => rw [← e]; simp only [vwS, r]; exact True.intro
          | ins C fs => rw [← e]; simp only [vwS, r]; exact True.intro
          | dead => rw [← e]; simp only [vwS, r]; exact True.intro
theorem cutB_t {a : Addr} {xs : List V} (ok : Ok K as B H σ s) (x : Ext [] (vwB as B H) H [] B' H') (h : SqT K B' a xs) : SqT K (cutB as B B') a xs := by
  have go : ∀ u, B' a = some u → (∀ vs, u ≠ .lst vs) → cutB as B B' a = some u := fun u e n => by
    unfold cutB
    cases q : B a with
    | some w => exact e
    | none =>
      dsimp only
      by_cases hm : a ∈ as
      · exfalso
        cases r : H a with
        | none => exact ok.ht a hm r
        | some o =>
          by_cases z : ∃ vs, o = .lst vs
          · obtain ⟨vs, rfl⟩ := z
            have z1 : vwB as B H a = some (.lst vs) := by
              unfold vwB
              rw [q]
              dsimp only
              rw [if_pos hm, r]
            have z2 := x.b _ _ z1
            rw [e] at z2
            exact n vs (Option.some.inj z2)
          · have z1 : vwB as B H a = none := by
              unfold vwB
              rw [q]
              dsimp only
              rw [if_pos hm, r]
              cases o <;> first | rfl | exact absurd ⟨_, rfl⟩ z
            have z2 := x.n a z1 (ne_none r) (fun z => nomatch z)
            rw [e] at z2
            cases z2
      · rw [if_neg hm]; exact e
  rcases h with (h | ⟨o, h⟩) | h
  · exact .inl (.inl (go _ h fun vs z => nomatch z))
  · exact .inl (.inr ⟨o, go _ h fun vs z => nomatch z⟩)
  · exact .inr h
mutual
theorem Rep.cutB (ok : Ok K as B H σ s) (x : Ext [] (vwB as B H) H [] B' H') : ∀ {d : D} {v : V}, D.nol d = true → Rep K B' v d → Rep K (cutB as B B') v d
  | .non, _, _, h => by cases h; exact .non
  | .bl b, _, _, h => by cases h; exact .bl b
  | .int i, _, _, h => by cases h; exact .int i
  | .str x, _, _, h => by cases h; exact .str x
  | .lst ds, _, n, h => by simp [D.nol] at n
  | .tup ds, _, n, h => by
    cases h with
    | tup ha hs => exact .tup (cutB_t ok x ha) (Reps.cutB ok x (by simpa [D.nol] using n) hs)
  | .scr ns, _, n, h => by simp [D.nol] at n
  | .exc c, _, n, h => by simp [D.nol] at n
theorem Reps.cutB (ok : Ok K as B H σ s) (x : Ext [] (vwB as B H) H [] B' H') : ∀ {ds : List D} {vs : List V}, D.nols ds = true → Reps K B' vs ds → Reps K (cutB as B B') vs ds
  | [], _, _, h => by cases h; exact .nil
  | d :: ds, _, n, h => by
    cases h with
    | cons h1 h2 =>
      have n' : (D.nol d && D.nols ds) = true := by simpa [D.nols] using n
      rw [Bool.and_eq_true] at n'
      exact .cons (Rep.cutB ok x n'.1 h1) (Reps.cutB ok x n'.2 h2)
end
theorem Ok.unview (ok : Ok K as B H σ s) (x : Ext [] (vwB as B H) H [] B' H') (sm : Same B' H') : Ext as B H as (cutB as B B') H' ∧ Ok K as (cutB as B B') H' σ s := by
  have sB : Same B (cutB as B B') := fun y u e => by
    unfold cutB
    rw [e]
    exact x.b _ _ (vwB_some e)
  have sH : Same H H' := fun y u e => x.k y u (fun z => nomatch z) e
  refine ⟨⟨sB, fun y u _ e => sH _ _ e, fun y h1 h2 h3 => ?_, ⟨[], by simp, fun _ z => nomatch z⟩, x.t⟩, ⟨fun y u e => ?_, ok.nd, fun a ha => x.t a (ok.ht a ha), fun j a c h1 h2 h3 => ?_, ⟨ok.cs.1, fun j a c h1 h2 => (ok.cs.2 j a c h1 h2).mono sB ⟨[], by simp⟩ fun _ u e => sH _ _ e⟩, ok.ln, fun i y hy => (ok.sl i y hy).mono sB ⟨[], by simp⟩⟩⟩
  · unfold DL.cutB
    rw [h1]
    dsimp only
    rw [if_neg h3]
    refine x.n y ?_ h2 (fun z => nomatch z)
    unfold vwB
    rw [h1]
    dsimp only
    rw [if_neg h3]
  · unfold DL.cutB at e
    cases q : B y with
    | some w => rw [q] at e; exact sm _ _ e
    | none =>
      rw [q] at e
      dsimp only at e
      split at e
      · cases e
      · exact sm _ _ e
  · unfold DL.cutB
    rw [ok.nb j a c h1 h2 h3]
    dsimp only
    rw [if_pos (List.mem_of_getElem? h1)]
end
theorem je_view (h : JE X W e s.pv (.ok d) s.pv) (hn : D.nol d = true := by rfl) : JE X W e s (.ok d) s := fun as B H σ ok Q q =>
  h [] _ H σ ok.view Q fun v B' H' x o r => by
    obtain ⟨x2, o2⟩ := ok.unview x o.sm
    exact q v _ H' x2 o2 (Rep.cutB ok x hn r)
theorem jt_view {β : Bool} (h : JT X e s.pv β) : JT X e s β := fun as B H σ ok Q q =>
  h [] _ H σ ok.view Q fun B' H' x o => by
    obtain ⟨x2, o2⟩ := ok.unview x o.sm
    exact q _ H' x2 o2
end
end DL
set_option Elab.async false
set_option linter.all false
set_option maxRecDepth 100000
set_option maxHeartbeats 4000000
set_option autoImplicit true
/-! DLc: comparisons, tests, built-in calls, methods -/
namespace DL
open PySem PySem.Spec PyProof.Rows L2

/-! ### the library's data -/
mutual
def D.py : D → PyData
  | .non => .none
  | .bl b => .bool b
  | .int i => .int i
  | .str s => .str s
  | .lst xs => .list (D.pys xs)
  | .tup xs => .tuple (D.pys xs)
  | .scr ns => .list (ns.map .int)
  | .exc _ => .none
def D.pys : List D → List PyData
  | [] => []
  | x :: xs => D.py x :: D.pys xs
end
theorem pys_map : ∀ xs : List D, D.pys xs = xs.map D.py
  | [] => rfl
  | x :: xs => by rw [D.pys, List.map_cons, pys_map xs]
/-- data no deeper than n, its texts proper -/
def Sh : Nat → D → Prop
  | _, .str s => PyData.strOk s = true
  | n + 1, .lst xs => ∀ x ∈ xs, Sh n x
  | n + 1, .tup xs => ∀ x ∈ xs, Sh n x
  | 0, .lst _ => False
  | 0, .tup _ => False
  | _, .scr _ => False
  | _, .exc _ => False
  | _, .non => True
  | _, .bl _ => True
  | _, .int _ => True
theorem sh_py : ∀ (n : Nat) (d : D), Sh n d → d.py.canLay0 = true ∧ d.py.depth ≤ n
  | n, .str s, h => by
    cases n <;> exact ⟨by simpa [Sh, D.py, PyData.canLay0] using h, by simp [D.py, PyData.depth]⟩
  | 0, .lst _, h => by simp [Sh] at h
  | 0, .tup _, h => by simp [Sh] at h
  | n + 1, .lst xs, h => by
    have h' : ∀ x ∈ xs, Sh n x := by simpa [Sh] using h
    have z : ∀ l : List D, (∀ x ∈ l, Sh n x) → PyData.canLayAll0 (D.pys l) = true ∧ PyData.depthAll (D.pys l) ≤ n := by
      intro l
      induction l with
      | nil => intro _; exact ⟨rfl, Nat.zero_le _⟩
      | cons x l ih =>
        intro hl
        have h1 := sh_py n x (hl x List.mem_cons_self)
        have h2 := ih fun y hy => hl y (List.mem_cons_of_mem _ hy)
        exact ⟨by rw [D.pys, PyData.canLayAll0, h1.1, h2.1]; rfl, by rw [D.pys, PyData.depthAll]; exact Nat.max_le.mpr ⟨h1.2, h2.2⟩⟩
    obtain ⟨z1, z2⟩ := z xs h'
    exact ⟨by rw [D.py, PyData.canLay0]; exact z1, by rw [D.py, PyData.depth]; omega⟩
  | n + 1, .tup xs, h => by
    have h' : ∀ x ∈ xs, Sh n x := by simpa [Sh] using h
    have z : ∀ l : List D, (∀ x ∈ l, Sh n x) → PyData.canLayAll0 (D.pys l) = true ∧ PyData.depthAll (D.pys l) ≤ n := by
      intro l
      induction l with
      | nil => intro _; exact ⟨rfl, Nat.zero_le _⟩
      | cons x l ih =>
        intro hl
        have h1 := sh_py n x (hl x List.mem_cons_self)
        have h2 := ih fun y hy => hl y (List.mem_cons_of_mem _ hy)
        exact ⟨by rw [D.pys, PyData.canLayAll0, h1.1, h2.1]; rfl, by rw [D.pys, PyData.depthAll]; exact Nat.max_le.mpr ⟨h1.2, h2.2⟩⟩
    obtain ⟨z1, z2⟩ := z xs h'
    exact ⟨by rw [D.py, PyData.canLay0]; exact z1, by rw [D.py, PyData.depth]; omega⟩
  | n, .scr _, h => by cases n <;> simp [Sh] at h
  | n, .exc _, h => by cases n <;> simp [Sh] at h
  | n, .non, _ => by cases n <;> exact ⟨rfl, by simp [D.py, PyData.depth]⟩
  | n, .bl _, _ => by cases n <;> exact ⟨rfl, by simp [D.py, PyData.depth]⟩
  | n, .int _, _ => by cases n <;> exact ⟨rfl, by simp [D.py, PyData.depth]⟩
theorem shaped_of {n : Nat} {d : D} (h : Sh n d) (hn : n ≤ 60) : SeqAt.shaped d.py = true := by
  obtain ⟨h1, h2⟩ := sh_py n d h
  unfold SeqAt.shaped
  rw [h1, Bool.true_and, decide_eq_true_eq]
  omega
section
variable {K : PySem.W.Frag} {B : Hp}
mutual
theorem Rep.dp : ∀ (n : Nat) {d : D} {v : V}, Sh n d → Rep K B v d → Dp K B v d.py
  | _, .non, _, _, h => by cases h; exact .non
  | _, .bl b, _, _, h => by cases h; exact .bl b
  | _, .int i, _, _, h => by cases h; exact .int i
  | _, .str x, _, _, h => by cases h; exact .str x
  | 0, .lst _, _, n, _ => by simp [Sh] at n
  | 0, .tup _, _, n, _ => by simp [Sh] at n
  | n + 1, .lst ds, _, s, h => by
    cases h with
    | lst ha hs => exact .lst (SqL.of ha) (Reps.dp n (by simpa [Sh] using s) hs)
  | n + 1, .tup ds, _, s, h => by
    cases h with
    | tup ha hs => exact .tup ha (Reps.dp n (by simpa [Sh] using s) hs)
  | n, .scr _, _, s, _ => by cases n <;> simp [Sh] at s
  | n, .exc _, _, s, _ => by cases n <;> simp [Sh] at s
theorem Reps.dp : ∀ (n : Nat) {ds : List D} {vs : List V}, (∀ x ∈ ds, Sh n x) → Reps K B vs ds → DpAll K B vs (D.pys ds)
  | _, [], _, _, h => by cases h; exact .nil
  | n, d :: ds, _, s, h => by
    cases h with
    | cons h1 h2 => exact .cons (Rep.dp n (s d List.mem_cons_self) h1) (Reps.dp n (fun x hx => s x (List.mem_cons_of_mem _ hx)) h2)
end
mutual
theorem dp_same {B' : Hp} (e : Same B B') : ∀ {d : PyData} {v : V}, Dp K B v d → Dp K B' v d
  | .none, _, h => by cases h; exact .non
  | .bool _, _, h => by cases h; exact .bl _
  | .int _, _, h => by cases h; exact .int _
  | .str _, _, h => by cases h; exact .str _
  | .list ds, _, h => by
    cases h with
    | lst ha hs => exact .lst (e.seq ha) (dpAll_same e hs)
  | .tuple ds, _, h => by
    cases h with
    | tup ha hs => exact .tup (same_t e ha) (dpAll_same e hs)
  | .dict _, _, h => by cases h
theorem dpAll_same {B' : Hp} (e : Same B B') : ∀ {ds : List PyData} {vs : List V}, DpAll K B vs ds → DpAll K B' vs ds
  | [], _, h => by cases h; exact .nil
  | d :: ds, _, h => by
    cases h with
    | cons h1 h2 => exact .cons (dp_same e h1) (dpAll_same e h2)
end
end
def D.eqv (a b : D) : Bool := PyData.eqv a.py b.py
def isN : D → Bool
  | .non => true
  | _ => false
/-- a in b's items -/
def inD (a : D) (bs : List D) : Bool := bs.any fun z => D.eqv z a

/-! ### comparisons -/
inductive CmpD : CmpOp → D → D → Bool → Prop
  | lt {i j : Int} : CmpD .Lt (.int i) (.int j) (decide (i < j))
  | le {i j : Int} : CmpD .LtE (.int i) (.int j) (decide (i ≤ j))
  | gt {i j : Int} : CmpD .Gt (.int i) (.int j) (decide (j < i))
  | ge {i j : Int} : CmpD .GtE (.int i) (.int j) (decide (j ≤ i))
  | eqI {i j : Int} : CmpD .Eq (.int i) (.int j) (decide (i = j))
  | neI {i j : Int} : CmpD .NotEq (.int i) (.int j) (!decide (i = j))
  | eqS {i j : Str} : CmpD .Eq (.str i) (.str j) (decide (i = j))
  | neS {i j : Str} : CmpD .NotEq (.str i) (.str j) (!decide (i = j))
  | eqB {i j : Bool} : CmpD .Eq (.bl i) (.bl j) (decide (i = j))
  | eq {a b : D} (n : Nat) (hn : n ≤ 60) (ha : Sh n a) (hb : Sh n b) : CmpD .Eq a b (D.eqv a b)
  | ne {a b : D} (n : Nat) (hn : n ≤ 60) (ha : Sh n a) (hb : Sh n b) : CmpD .NotEq a b (!D.eqv a b)
  | isN {a : D} : CmpD .Is a .non (isN a)
  | notN {a : D} : CmpD .IsNot a .non (!isN a)
  | inL {a : D} {bs : List D} (n : Nat) (hn : n ≤ 59) (ha : Sh n a) (hb : ∀ b ∈ bs, Sh n b) : CmpD .In a (.lst bs) (inD a bs)
  | ninL {a : D} {bs : List D} (n : Nat) (hn : n ≤ 59) (ha : Sh n a) (hb : ∀ b ∈ bs, Sh n b) : CmpD .NotIn a (.lst bs) (!inD a bs)
  | inTI {i : Int} {js : List Int} : CmpD .In (.int i) (.tup (js.map .int)) (js.any fun j => decide (j = i))
  | inTS {i : Str} {js : List Str} : CmpD .In (.str i) (.tup (js.map .str)) (js.any fun j => decide (j = i))
  | ninTS {i : Str} {js : List Str} : CmpD .NotIn (.str i) (.tup (js.map .str)) (!js.any fun j => decide (j = i))
  | inS {c : Nat} {z : Str} : CmpD .In (.str ⟨#[c]⟩) (.str z) (decide (c ∈ z.cps.toList))
theorem inV_int (i : Int) : ∀ js : List Int, inV (.int i) (js.map V.int) = js.any fun j => decide (j = i)
  | [] => rfl
  | j :: js => by
    have ih := inV_int i js
    unfold inV at ih ⊢
    rw [List.map_cons, List.any_cons, List.any_cons, ih]
    congr 1
theorem inV_str (i : Str) : ∀ js : List Str, inV (.str i) (js.map V.str) = js.any fun j => decide (j = i)
  | [] => rfl
  | j :: js => by
    have ih := inV_str i js
    unfold inV at ih ⊢
    rw [List.map_cons, List.any_cons, List.any_cons, ih]
    congr 1
section
variable {X : Cx} {W : WX} {k : Nat} {e a b c : Expr} {es : List Expr} {s s' s1 s2 s3 : A} {d d' da db dc : D} {r : Res} {ds : List D} {xs ys : List D} {pos p2 p : Pos} {x : Str} {β β1 β2 : Bool} {op : CmpOp}
/-- the rule of a comparison, told by what its two sides are -/
theorem cmp_rule (hu : X.A.units + 65 < cLine) (h : CmpD op da db β) : ∃ r : R2, OpR X (compareOp op) r ∧ ∀ (B H : Hp) (x y : V) (Q : VK), Same B H → Rep X.K B x da → Rep X.K B y db → Q (.bl β) H → r x y H Q := by
  cases h with
  | lt => exact ⟨_, op_lt, fun B H x y Q sm rx ry q => by cases rx; cases ry; exact ⟨_, _, rfl, rfl, q⟩⟩
  | le => exact ⟨_, op_le, fun B H x y Q sm rx ry q => by cases rx; cases ry; exact ⟨_, _, rfl, rfl, q⟩⟩
  | gt => exact ⟨_, op_gt, fun B H x y Q sm rx ry q => by cases rx; cases ry; exact ⟨_, _, rfl, rfl, q⟩⟩
  | ge => exact ⟨_, op_ge, fun B H x y Q sm rx ry q => by cases rx; cases ry; exact ⟨_, _, rfl, rfl, q⟩⟩
  | eqI => exact ⟨_, op_eq, fun B H x y Q sm rx ry q => by cases rx; cases ry; exact ⟨rfl, by rw [dec_int, Bool.beq_eq_decide_eq]; exact q⟩⟩
  | neI => exact ⟨_, op_ne, fun B H x y Q sm rx ry q => by cases rx; cases ry; exact ⟨rfl, by rw [dec_int, Bool.beq_eq_decide_eq]; exact q⟩⟩
  | @eqS i j => exact ⟨_, op_eq, fun B H x y Q sm rx ry q => by
      cases rx; cases ry
      refine ⟨rfl, ?_⟩
      have e : decide (V.str i = V.str j) = decide (i = j) := by
        by_cases z : i = j
        · subst z; simp
        · rw [decide_eq_false z, decide_eq_false (fun q => z (V.str.inj q))]
      rw [e]; exact q⟩
  | @neS i j => exact ⟨_, op_ne, fun B H x y Q sm rx ry q => by
      cases rx; cases ry
      refine ⟨rfl, ?_⟩
      have e : decide (V.str i = V.str j) = decide (i = j) := by
        by_cases z : i = j
        · subst z; simp
        · rw [decide_eq_false z, decide_eq_false (fun q => z (V.str.inj q))]
      rw [e]; exact q⟩
  | @eqB i j => exact ⟨_, op_eq, fun B H x y Q sm rx ry q => by
      cases rx; cases ry
      refine ⟨rfl, ?_⟩
      have e : decide (V.bl i = V.bl j) = decide (i = j) := by cases i <;> cases j <;> rfl
      rw [e]; exact q⟩
  | eq n hn ha hb => exact ⟨_, op_eqD (by omega), fun B H x y Q sm rx ry q => ⟨_, _, dp_same sm (rx.dp n ha), dp_same sm (ry.dp n hb), shaped_of ha hn, shaped_of hb hn, q⟩⟩
  | ne n hn ha hb => exact ⟨_, op_neD (by omega), fun B H x y Q sm rx ry q => ⟨_, _, dp_same sm (rx.dp n ha), dp_same sm (ry.dp n hb), shaped_of ha hn, shaped_of hb hn, q⟩⟩
  | isN => exact ⟨_, op_isN, fun B H x y Q sm rx ry q => by
      cases ry
      refine ⟨rfl, ?_⟩
      have e : decide (x = V.non) = DL.isN da := by cases rx <;> rfl
      rw [e]; exact q⟩
  | notN => exact ⟨_, op_notN, fun B H x y Q sm rx ry q => by
      cases ry
      refine ⟨rfl, ?_⟩
      have e : decide (x = V.non) = DL.isN da := by cases rx <;> rfl
      rw [e]; exact q⟩
  | @inL a bs n hn ha hb => exact ⟨_, op_inD hu, fun B H x y Q sm rx ry q => by
      have sb : Sh (n + 1) (.lst bs) := by simpa [Sh] using hb
      refine ⟨_, _, dp_same sm (rx.dp n ha), by have z := dp_same sm (ry.dp (n + 1) sb); rw [D.py] at z; exact z, shaped_of ha (by omega), by have z := shaped_of sb (by omega); rw [D.py] at z; exact z, ?_⟩
      have e : ((D.pys bs).any fun z => PyData.eqv z da.py) = inD da bs := by rw [pys_map, List.any_map]; rfl
      rw [e]; exact q⟩
  | @ninL a bs n hn ha hb => exact ⟨_, op_notInD hu, fun B H x y Q sm rx ry q => by
      have sb : Sh (n + 1) (.lst bs) := by simpa [Sh] using hb
      refine ⟨_, _, dp_same sm (rx.dp n ha), by have z := dp_same sm (ry.dp (n + 1) sb); rw [D.py] at z; exact z, shaped_of ha (by omega), by have z := shaped_of sb (by omega); rw [D.py] at z; exact z, ?_⟩
      have e : ((D.pys bs).any fun z => PyData.eqv z da.py) = inD da bs := by rw [pys_map, List.any_map]; rfl
      rw [e]; exact q⟩
  | @inTI i js => exact ⟨_, op_in_seq, fun B H x y Q sm rx ry q => by
      cases rx
      cases ry with
      | tup ht hv =>
        have e := hv.ints
        subst e
        refine ⟨_, _, rfl, .inr (same_t sm ht), rfl, by simp [flatV], ?_⟩
        rw [inV_int]
        exact q⟩
  | @inTS i js => exact ⟨_, op_in_seq, fun B H x y Q sm rx ry q => by
      cases rx
      cases ry with
      | tup ht hv =>
        have e := hv.strs
        subst e
        refine ⟨_, _, rfl, .inr (same_t sm ht), rfl, by simp [flatV], ?_⟩
        rw [inV_str]
        exact q⟩
  | @ninTS i js => exact ⟨_, op_notIn_seq, fun B H x y Q sm rx ry q => by
      cases rx
      cases ry with
      | tup ht hv =>
        have e := hv.strs
        subst e
        refine ⟨_, _, rfl, .inr (same_t sm ht), rfl, by simp [flatV], ?_⟩
        rw [inV_str]
        exact q⟩
  | inS => exact ⟨_, op_in_sign, fun B H x y Q sm rx ry q => by cases rx; cases ry; exact ⟨_, _, rfl, rfl, q⟩⟩
theorem Cok.u65 (C : Cok X W k) : X.A.units + 65 < cLine := by
  have h := C.hr.un
  omega
theorem je_cmp {V : WX} (C : Cok X V k) (ha : JE X W a s (.ok da) s1) (hb : JE X W b s1 (.ok db) s2) (h : CmpD op da db β) (hm : behindInMarks op b = false := by first | exact nomark _ | rfl) : JE X W (.Compare a [op] [b] pos) s (.ok (.bl β)) s2 := by
  obtain ⟨r, ho, hr⟩ := cmp_rule C.u65 h
  exact je_of (pe_cmpR ho pe_w pe_w hm) fun as B H σ ok Q q => Ok.two ha hb ok fun x y B2 H2 e2 o2 rx ry => hr B2 H2 x y _ o2.sm rx ry (q _ B2 H2 e2 o2 (.bl _))
theorem jt_cmp (C : Cok X W k) (ha : JE X WN a s (.ok da) s) (hb : JE X WN b s (.ok db) s) (h : CmpD op da db β) (hm : behindInMarks op b = false := by first | exact nomark _ | rfl) : JT X (.Compare a [op] [b] pos) s β := by
  obtain ⟨r, ho, hr⟩ := cmp_rule C.u65 h
  exact jt_of (pt_cmpR ho pe_w pe_w hm) fun as B H σ ok Q q => Ok.two ha hb ok fun x y B2 H2 e2 o2 rx ry => hr B2 H2 x y _ o2.sm rx ry ⟨_, rfl, q B2 H2 e2 o2⟩
theorem op_nev {f : Value → Value → Sem Value} : OpR X f (fun _ _ _ _ => False) := fun _ _ _ _ _ _ _ _ _ _ _ _ h => h.elim
/-- a op b op' c -/
theorem je_chain {op' : CmpOp} {V : WX} (C : Cok X V k) (ha : JE X W a s (.ok da) s) (hb : JE X W b s (.ok db) s) (h : CmpD op da db β1) (hc : β1 = true → JE X W c s (.ok dc) s ∧ CmpD op' db dc β2) (hm : lastMarks [op, op'] [b, c] = false := by with_unfolding_all rfl) :
    JE X W (.Compare a [op, op'] [b, c] pos) s (.ok (.bl (β1 && β2))) s := by
  obtain ⟨r, ho, hr⟩ := cmp_rule C.u65 h
  cases β1 with
  | true =>
    obtain ⟨hc, h'⟩ := hc rfl
    obtain ⟨r', ho', hr'⟩ := cmp_rule C.u65 h'
    exact je_of (pe_chain ho ho' pe_w pe_w pe_w hm) fun as B H σ ok Q q => Ok.two ha hb ok fun x y B2 H2 e2 o2 rx ry => hr B2 H2 x y _ o2.sm rx ry ⟨true, rfl, by
      rw [if_pos rfl]
      exact Ok.one hc o2 fun z B3 H3 e3 o3 rz => hr' B3 H3 y z _ o3.sm (ry.mono e3.b) rz (q _ B3 H3 (e2.trans e3) o3 (.bl _))⟩
  | false =>
    exact je_of (pe_chain ho op_nev pe_w pe_w pe_w hm) fun as B H σ ok Q q => Ok.two ha hb ok fun x y B2 H2 e2 o2 rx ry => hr B2 H2 x y _ o2.sm rx ry ⟨false, rfl, by
      rw [if_neg (by decide)]
      exact q _ B2 H2 e2 o2 (.bl _)⟩ 
end
end DL
set_option Elab.async false
set_option linter.all false
set_option maxRecDepth 100000
set_option maxHeartbeats 4000000
set_option autoImplicit true
/-! DLd: tests, built-in calls, methods -/
namespace DL
open PySem PySem.Spec PyProof.Rows L2
section
variable {X : Cx} {W : WX} {k : Nat} {e a b c : Expr} {es rest : List Expr} {s s' s1 s2 s3 : A} {d d' da db dc : D} {r : Res} {ds : List D} {xs ys : List D} {pos p2 p apos : Pos} {x : Str} {β β1 β2 : Bool} {op : CmpOp}
/-! ### tests -/
theorem jt_val (h : JE X WN e s (.ok (.bl β)) s) (he : ∀ whole, isTrue e X.env whole = (do let v ← whole; standAt e.pos; holding [v] (truthy v)) := by intro _; rfl) : JT X e s β :=
  jt_of (pt_val pe_w he) fun as B H σ ok Q q => Ok.one h ok fun x B1 H1 e1 o1 r1 => by
    cases r1
    exact ⟨_, rfl, q B1 H1 e1 o1⟩
def truD : D → Bool
  | .non => false
  | .bl b => b
  | .int i => i != 0
  | .str s => (s.length : Int) != 0
  | .lst xs => !xs.isEmpty
  | .tup xs => !xs.isEmpty
  | .scr ns => !ns.isEmpty
  | .exc _ => true
theorem isEmpty_len {α β : Type} {l : List α} {m : List β} (h : l.length = m.length) : l.isEmpty = m.isEmpty := by
  cases l with
  | nil => cases m with
    | nil => rfl
    | cons b m => simp at h
  | cons a l => cases m with
    | nil => simp at h
    | cons b m => rfl
/-- lists, tuples, the script by their emptiness -/
theorem jt_tru (h : JE X WN e s (.ok d) s) (hd : (∃ xs, d = .lst xs) ∨ (∃ xs, d = .tup xs) ∨ (∃ ns, d = .scr ns) := by first | exact .inl ⟨_, rfl⟩ | exact .inr (.inl ⟨_, rfl⟩) | exact .inr (.inr ⟨_, rfl⟩)) (he : ∀ whole, isTrue e X.env whole = (do let v ← whole; standAt e.pos; holding [v] (truthy v)) := by intro _; rfl) : JT X e s (truD d) :=
  jt_of (pt_truth pe_w he) fun as B H σ ok Q q => Ok.one h ok fun x B1 H1 e1 o1 r1 => by
    rcases hd with ⟨xs, rfl⟩ | ⟨xs, rfl⟩ | ⟨ns, rfl⟩
    · cases r1 with
      | lst ha hs => exact ⟨_, .inl ⟨_, .inl (.inl (o1.sm _ _ ha)), by rw [isEmpty_len hs.length]; rfl⟩, q B1 H1 e1 o1⟩
    · cases r1 with
      | tup ha hs => exact ⟨_, .inr (.inl ⟨_, same_t o1.sm ha, by rw [isEmpty_len hs.length]; rfl⟩), q B1 H1 e1 o1⟩
    · cases r1 with
      | scr ha => exact ⟨_, .inl ⟨_, o1.sm.seq ha, by rw [isEmpty_len (List.length_map ..)]; rfl⟩, q B1 H1 e1 o1⟩
theorem jt_not (h : JT X e s β) : JT X (.UnaryOp .Not e pos) s (!β) := jt_of (pt_not pt_w) fun as B H σ ok Q q => h as B H σ ok _ fun B1 H1 e1 o1 => q B1 H1 e1 o1
theorem jw_and1 (h : JT X e s β) : JW X (.BoolOp .And [e] pos) s β := jw_of (pw_and1 pt_w) h
theorem jw_or1 (h : JT X e s β) : JW X (.BoolOp .Or [e] pos) s β := jw_of (pw_or1 pt_w) h
theorem jw_andC (h : JT X e s β1) (h2 : β1 = true → JW X (.BoolOp .And (b :: rest) pos) s β2) : JW X (.BoolOp .And (e :: b :: rest) pos) s (β1 && β2) :=
  jw_of (pw_and pt_w pw_w) fun as B H σ ok Q q => h as B H σ ok _ fun B1 H1 e1 o1 => by
    cases β1 with
    | true => exact iteT (h2 rfl as B1 H1 σ o1 _ fun B2 H2 e2 o2 => q B2 H2 (e1.trans e2) o2)
    | false => exact iteF (q B1 H1 e1 o1)
theorem jw_orC (h : JT X e s β1) (h2 : β1 = false → JW X (.BoolOp .Or (b :: rest) pos) s β2) : JW X (.BoolOp .Or (e :: b :: rest) pos) s (β1 || β2) :=
  jw_of (pw_or pt_w pw_w) fun as B H σ ok Q q => h as B H σ ok _ fun B1 H1 e1 o1 => by
    cases β1 with
    | false => exact iteF (h2 rfl as B1 H1 σ o1 _ fun B2 H2 e2 o2 => q B2 H2 (e1.trans e2) o2)
    | true => exact iteT (q B1 H1 e1 o1)
theorem jw_and (h : JT X e s β1) (h2 : JW X (.BoolOp .And (b :: rest) pos) s β2) : JW X (.BoolOp .And (e :: b :: rest) pos) s (β1 && β2) := jw_andC h fun _ => h2
theorem jw_or (h : JT X e s β1) (h2 : JW X (.BoolOp .Or (b :: rest) pos) s β2) : JW X (.BoolOp .Or (e :: b :: rest) pos) s (β1 || β2) := jw_orC h fun _ => h2
theorem jt_w (h : JW X e s β) : JT X e s β := jt_of (PW.pt pw_w) h
/-! ### .. as values -/
theorem je_not (h : JE X W e s (.ok (.bl β)) s) : JE X W (.UnaryOp .Not e pos) s (.ok (.bl (!β))) s := je_of (pe_not pe_w) fun as B H σ ok Q q => Ok.one h ok fun x B1 H1 e1 o1 r1 => by
  cases r1
  exact ⟨_, rfl, q _ B1 H1 e1 o1 (.bl _)⟩
theorem je_one {bop : BoolOp} (h : JE X W e s r s1) : JE X W (.BoolOp bop [e] pos) s r s1 := fun as B H σ ok Q q => wE_of (pe_one pe_w) (h as B H σ ok Q q)
theorem je_and (h : JE X W e s (.ok (.bl β1)) s) (h2 : β1 = true → JE X W (.BoolOp .And (b :: rest) pos) s (.ok d) s) (h3 : β1 = false → d = .bl false) : JE X W (.BoolOp .And (e :: b :: rest) pos) s (.ok d) s :=
  je_of (pe_and pe_w pe_w) fun as B H σ ok Q q => Ok.one h ok fun x B1 H1 e1 o1 r1 => by
    cases r1
    refine ⟨_, rfl, ?_⟩
    cases β1 with
    | true => exact iteT (Ok.one (h2 rfl) o1 fun x B2 H2 e2 o2 r2 => q _ B2 H2 (e1.trans e2) o2 r2)
    | false =>
      have z := h3 rfl
      subst z
      exact iteF (q _ B1 H1 e1 o1 (.bl _))
theorem je_or (h : JE X W e s (.ok (.bl β1)) s) (h2 : β1 = false → JE X W (.BoolOp .Or (b :: rest) pos) s (.ok d) s) (h3 : β1 = true → d = .bl true) : JE X W (.BoolOp .Or (e :: b :: rest) pos) s (.ok d) s :=
  je_of (pe_or pe_w pe_w) fun as B H σ ok Q q => Ok.one h ok fun x B1 H1 e1 o1 r1 => by
    cases r1
    refine ⟨_, rfl, ?_⟩
    cases β1 with
    | false => exact iteF (Ok.one (h2 rfl) o1 fun x B2 H2 e2 o2 r2 => q _ B2 H2 (e1.trans e2) o2 r2)
    | true =>
      have z := h3 rfl
      subst z
      exact iteT (q _ B1 H1 e1 o1 (.bl _))
theorem je_if (ht : JT X c s β) (h1 : β = true → JE X W a s r s1) (h2 : β = false → JE X W b s r s1) : JE X W (.IfExp c a b pos) s r s1 := fun as B H σ ok Q q =>
  wE_of (pe_ifExp pt_w pe_w pe_w) (ht as B H σ ok _ fun B1 H1 e1 o1 => by
    have go : OutE X.K W as B1 H1 σ s1 Q r := by
      cases r with
      | ok d => exact fun v B2 H2 e2 o2 r2 => q v B2 H2 (e1.trans e2) o2 r2
      | er c => exact fun B2 H2 e2 o2 => q B2 H2 (e1.trans e2) o2
    cases β with
    | true => exact iteT (h1 rfl as B1 H1 σ o1 Q go)
    | false => exact iteF (h2 rfl as B1 H1 σ o1 Q go))

/-! ### built-in calls -/
/-- a call of one argument, by the rule of values -/
theorem je_call1 {id : String} {rr : List V → Hp → VK → Prop} (hc : CallR X (.builtin id) rr) (ha : JE X W a s (.ok da) s1)
    (h : ∀ as B H B1 H1 σ v Q, Ext as B H as B1 H1 → Ok X.K as B1 H1 σ s1 → Rep X.K B1 v da → (∀ v B' H', Ext as B H as B' H' → Ok X.K as B' H' σ s1 → Rep X.K B' v d → Q v H') → rr [v] H1 Q)
    (hm : X.mg x = none) (hv : bootBuiltins x = some (.builtin id)) (hg : Gl X x := by rfl) (hn : x ≠ "__name__" := by decide) (hdb : (x == ("__debug__" : Str)) = false := by decide)
    (he : starEach (a :: []) X.env = (false, eval a X.env) :: starEach [] X.env := by rfl) (hpl : (backTo pos (starEach [] X.env)).any (·.1) = false := by rfl) : JE X W (.Call (.Name x p) [a] [] pos) s (.ok d) s1 :=
  je_of (pe_callB hc hg hm hv (pa_cons pe_w pa_nil he) hn hdb he hpl) fun as B H σ ok Q q => Ok.one ha ok fun v B1 H1 e1 o1 r1 => h as B H B1 H1 σ v Q e1 o1 r1 q
theorem je_callT {id : String} {rr : List V → Hp → VK → Prop} (hc : CallR X (.type id) rr) (ha : JE X W a s (.ok da) s1)
    (h : ∀ as B H B1 H1 σ v Q, Ext as B H as B1 H1 → Ok X.K as B1 H1 σ s1 → Rep X.K B1 v da → (∀ v B' H', Ext as B H as B' H' → Ok X.K as B' H' σ s1 → Rep X.K B' v d → Q v H') → rr [v] H1 Q)
    (hm : X.mg x = none) (hv : bootBuiltins x = some (.type id)) (hg : Gl X x := by rfl) (hn : x ≠ "__name__" := by decide) (hdb : (x == ("__debug__" : Str)) = false := by decide)
    (he : starEach (a :: []) X.env = (false, eval a X.env) :: starEach [] X.env := by rfl) (hpl : (backTo pos (starEach [] X.env)).any (·.1) = false := by rfl) : JE X W (.Call (.Name x p) [a] [] pos) s (.ok d) s1 :=
  je_of (pe_callTy hc hg hm hv (pa_cons pe_w pa_nil he) hn hdb he hpl) fun as B H σ ok Q q => Ok.one ha ok fun v B1 H1 e1 o1 r1 => h as B H B1 H1 σ v Q e1 o1 r1 q
theorem jf_callT {id : String} {rr : List V → Hp → VK → Prop} (hc : CallR X (.type id) rr) (ha : JE X WN a s (.ok da) s1)
    (h : ∀ as B H B1 H1 σ v Q, Ext as B H as B1 H1 → Ok X.K as B1 H1 σ s1 → Rep X.K B1 v da → (∀ p vs B' H', Ext as B H as B' H' → Ok X.K as B' H' σ s1 → H p = none → B' p = none → H' p = some (.lst vs) → Reps X.K B' vs xs → Q (.ref p) H') → rr [v] H1 Q)
    (hm : X.mg x = none) (hv : bootBuiltins x = some (.type id)) (hg : Gl X x := by rfl) (hn : x ≠ "__name__" := by decide) (hdb : (x == ("__debug__" : Str)) = false := by decide)
    (he : starEach (a :: []) X.env = (false, eval a X.env) :: starEach [] X.env := by rfl) (hpl : (backTo pos (starEach [] X.env)).any (·.1) = false := by rfl) : JF X (.Call (.Name x p) [a] [] pos) s xs s1 :=
  jf_of (pe_callTy hc hg hm hv (pa_cons pe_w pa_nil he) hn hdb he hpl) fun as B H σ ok Q q => Ok.one (W := WN) ha ok fun v B1 H1 e1 o1 r1 => h as B H B1 H1 σ v Q e1 o1 r1 q
inductive LenD : D → Int → Prop
  | lst {xs : List D} : LenD (.lst xs) xs.length
  | tup {xs : List D} : LenD (.tup xs) xs.length
  | scr {xs : List Int} : LenD (.scr xs) xs.length
  | str {z : Str} (h : z.length ≤ sizeLine) : LenD (.str z) z.length
theorem je_len {n : Int} (hm : X.mg "len" = none) (ha : JE X W a s (.ok da) s1) (h : LenD da n) (hg : Gl X "len" := by rfl)
    (he : starEach (a :: []) X.env = (false, eval a X.env) :: starEach [] X.env := by rfl) (hpl : (backTo pos (starEach [] X.env)).any (·.1) = false := by rfl) : JE X W (.Call (.Name "len" p) [a] [] pos) s (.ok (.int n)) s1 := by
  cases h with
  | lst => exact je_call1 call_len_seq ha (fun as B H B1 H1 σ v Q e1 o1 r1 q => by
      cases r1 with
      | lst h1 h2 => exact ⟨_, _, rfl, .inl (.inl (.inl (o1.sm _ _ h1))), by rw [h2.length]; exact q _ B1 H1 e1 o1 (.int _)⟩) hm PySem.boot_len hg (by decide) (by decide) he hpl
  | tup => exact je_call1 call_len_seq ha (fun as B H B1 H1 σ v Q e1 o1 r1 q => by
      cases r1 with
      | tup h1 h2 => exact ⟨_, _, rfl, .inr (same_t o1.sm h1), by rw [h2.length]; exact q _ B1 H1 e1 o1 (.int _)⟩) hm PySem.boot_len hg (by decide) (by decide) he hpl
  | scr => exact je_call1 call_len_seq ha (fun as B H B1 H1 σ v Q e1 o1 r1 q => by
      cases r1 with
      | scr h1 => exact ⟨_, _, rfl, .inl (o1.sm.seq h1), by rw [List.length_map]; exact q _ B1 H1 e1 o1 (.int _)⟩) hm PySem.boot_len hg (by decide) (by decide) he hpl
  | str hz => exact je_call1 call_len_str ha (fun as B H B1 H1 σ v Q e1 o1 r1 q => by
      cases r1
      exact ⟨_, rfl, hz, q _ B1 H1 e1 o1 (.int _)⟩) hm PySem.boot_len hg (by decide) (by decide) he hpl
theorem jf_list (hm : X.mg "list" = none) (ha : JE X WN a s (.ok da) s1) (hd : da = .lst xs ∨ da = .tup xs) (hg : Gl X "list" := by rfl)
    (he : starEach (a :: []) X.env = (false, eval a X.env) :: starEach [] X.env := by rfl) (hpl : (backTo pos (starEach [] X.env)).any (·.1) = false := by rfl) : JF X (.Call (.Name "list" p) [a] [] pos) s xs s1 := by
  rcases hd with rfl | rfl
  · exact jf_callT call_list_of ha (fun as B H B1 H1 σ v Q e1 o1 r1 q => by
      cases r1 with
      | lst h1 h2 => exact ⟨_, _, rfl, .inl (.inl (.inl (o1.sm _ _ h1))), fun p hp => Ok.newF e1 o1 hp h2 q⟩) hm (by decide +kernel) hg (by decide) (by decide) he hpl
  · exact jf_callT call_list_of ha (fun as B H B1 H1 σ v Q e1 o1 r1 q => by
      cases r1 with
      | tup h1 h2 => exact ⟨_, _, rfl, .inr (same_t o1.sm h1), fun p hp => Ok.newF e1 o1 hp h2 q⟩) hm (by decide +kernel) hg (by decide) (by decide) he hpl
theorem je_tuple (hm : X.mg "tuple" = none) (ha : JE X W a s (.ok (.lst xs)) s1) (hg : Gl X "tuple" := by rfl)
    (he : starEach (a :: []) X.env = (false, eval a X.env) :: starEach [] X.env := by rfl) (hpl : (backTo pos (starEach [] X.env)).any (·.1) = false := by rfl) : JE X W (.Call (.Name "tuple" p) [a] [] pos) s (.ok (.tup xs)) s1 :=
  je_callT call_tuple_of ha (fun as B H B1 H1 σ v Q e1 o1 r1 q => by
      cases r1 with
      | lst h1 h2 => exact ⟨_, _, rfl, .inl ⟨.inl (.inl (o1.sm _ _ h1)), fun p hp => by
          obtain ⟨o3, e3⟩ := o1.new (o := .tup _) hp
          exact q _ _ _ (e1.trans e3) o3 (.tup (.inl (.inl upd_same)) (h2.mono e3.b))⟩⟩) hm (by decide +kernel) hg (by decide) (by decide) he hpl
def b2i (b : Bool) : Int := if b then 1 else 0
theorem je_intB (hm : X.mg "int" = none) (ha : JE X W a s (.ok (.bl β)) s1) (hg : Gl X "int" := by rfl)
    (he : starEach (a :: []) X.env = (false, eval a X.env) :: starEach [] X.env := by rfl) (hpl : (backTo pos (starEach [] X.env)).any (·.1) = false := by rfl) : JE X W (.Call (.Name "int" p) [a] [] pos) s (.ok (.int (b2i β))) s1 :=
  je_callT call_int1 ha (fun as B H B1 H1 σ v Q e1 o1 r1 q => by
      cases r1
      exact .inr ⟨_, rfl, q _ B1 H1 e1 o1 (.int _)⟩) hm (by decide +kernel) hg (by decide) (by decide) he hpl
theorem je_strI {i : Int} (hm : X.mg "str" = none) (ha : JE X W a s (.ok (.int i)) s1) (hi : i.natAbs.log2 < 1920) (hg : Gl X "str" := by rfl)
    (he : starEach (a :: []) X.env = (false, eval a X.env) :: starEach [] X.env := by rfl) (hpl : (backTo pos (starEach [] X.env)).any (·.1) = false := by rfl) : JE X W (.Call (.Name "str" p) [a] [] pos) s (.ok (.str (toString i))) s1 :=
  je_callT call_str_int ha (fun as B H B1 H1 σ v Q e1 o1 r1 q => by
      cases r1
      exact ⟨_, rfl, hi, q _ B1 H1 e1 o1 (.str _)⟩) hm (by decide +kernel) hg (by decide) (by decide) he hpl
theorem je_all {bs : List Bool} {V : WX} (C : Cok X V k) (hm : X.mg "all" = none) (ha : JE X W a s (.ok (.lst (bs.map .bl))) s1) (hg : Gl X "all" := by rfl)
    (he : starEach (a :: []) X.env = (false, eval a X.env) :: starEach [] X.env := by rfl) (hpl : (backTo pos (starEach [] X.env)).any (·.1) = false := by rfl) : JE X W (.Call (.Name "all" p) [a] [] pos) s (.ok (.bl (bs.all id))) s1 :=
  je_call1 (cr_all C.calm) ha (fun as B H B1 H1 σ v Q e1 o1 r1 q => by
      cases r1 with
      | lst h1 h2 =>
        have z := h2.bls
        subst z
        exact ⟨_, bs, rfl, .inl (.inl (o1.sm _ _ h1)), q _ B1 H1 e1 o1 (.bl _)⟩) hm (by decide +kernel) hg (by decide) (by decide) he hpl
theorem je_any {bs : List Bool} {V : WX} (C : Cok X V k) (hm : X.mg "any" = none) (ha : JE X W a s (.ok (.lst (bs.map .bl))) s1) (hg : Gl X "any" := by rfl)
    (he : starEach (a :: []) X.env = (false, eval a X.env) :: starEach [] X.env := by rfl) (hpl : (backTo pos (starEach [] X.env)).any (·.1) = false := by rfl) : JE X W (.Call (.Name "any" p) [a] [] pos) s (.ok (.bl (bs.any id))) s1 :=
  je_call1 (cr_any C.calm) ha (fun as B H B1 H1 σ v Q e1 o1 r1 q => by
      cases r1 with
      | lst h1 h2 =>
        have z := h2.bls
        subst z
        exact ⟨_, bs, rfl, .inl (.inl (o1.sm _ _ h1)), q _ B1 H1 e1 o1 (.bl _)⟩) hm (by decide +kernel) hg (by decide) (by decide) he hpl
/-- the greatest, the least of a list of ints; a tuple of ints (min(t)) -/
theorem je_maxL {ns : List Int} {m : Int} {V : WX} (C : Cok X V k) (hm : X.mg "max" = none) (ha : JE X W a s (.ok (.lst (ns.map .int))) s1) (h1 : m ∈ ns) (h2 : ∀ y ∈ ns, y ≤ m) (hg : Gl X "max" := by rfl)
    (he : starEach (a :: []) X.env = (false, eval a X.env) :: starEach [] X.env := by rfl) (hpl : (backTo pos (starEach [] X.env)).any (·.1) = false := by rfl) : JE X W (.Call (.Name "max" p) [a] [] pos) s (.ok (.int m)) s1 :=
  je_call1 (cr_max C.calm) ha (fun as B H B1 H1 σ v Q e1 o1 r1 q => by
      cases r1 with
      | lst g1 g2 =>
        have z := g2.ints
        subst z
        refine ⟨_, ns, rfl, .inl (.inl (o1.sm _ _ g1)), List.length_pos_of_mem h1, fun m' hm' hle => ?_⟩
        have e : m' = m := Int.le_antisymm (h2 _ hm') (hle _ h1)
        subst e
        exact q _ B1 H1 e1 o1 (.int _)) hm (by decide +kernel) hg (by decide) (by decide) he hpl
theorem je_minL {ns : List Int} {m : Int} {V : WX} (C : Cok X V k) (hm : X.mg "min" = none) (ha : JE X W a s (.ok (.lst (ns.map .int))) s1) (h1 : m ∈ ns) (h2 : ∀ y ∈ ns, m ≤ y) (hg : Gl X "min" := by rfl)
    (he : starEach (a :: []) X.env = (false, eval a X.env) :: starEach [] X.env := by rfl) (hpl : (backTo pos (starEach [] X.env)).any (·.1) = false := by rfl) : JE X W (.Call (.Name "min" p) [a] [] pos) s (.ok (.int m)) s1 :=
  je_call1 (cr_min C.calm) ha (fun as B H B1 H1 σ v Q e1 o1 r1 q => by
      cases r1 with
      | lst g1 g2 =>
        have z := g2.ints
        subst z
        refine ⟨_, ns, rfl, .inl (.inl (o1.sm _ _ g1)), List.length_pos_of_mem h1, fun m' hm' hle => ?_⟩
        have e : m' = m := Int.le_antisymm (hle _ h1) (h2 _ hm')
        subst e
        exact q _ B1 H1 e1 o1 (.int _)) hm (by decide +kernel) hg (by decide) (by decide) he hpl
theorem je_max2 {i j : Int} {V : WX} (C : Cok X V k) (hm : X.mg "max" = none) (ha : JE X W a s (.ok (.int i)) s1) (hb : JE X W b s1 (.ok (.int j)) s2) (hg : Gl X "max" := by rfl)
    (h1 : starEach (b :: []) X.env = (false, eval b X.env) :: starEach [] X.env := by rfl) (he : starEach (a :: [b]) X.env = (false, eval a X.env) :: starEach [b] X.env := by rfl) (hpl : (backTo pos (starEach [b] X.env)).any (·.1) = false := by rfl) :
    JE X W (.Call (.Name "max" p) [a, b] [] pos) s (.ok (.int (max i j))) s2 :=
  je_of (pe_callB (call_max2 C.calm) hg hm (by decide +kernel) (pa_cons pe_w (pa_cons pe_w pa_nil h1) he) (by decide) (by decide) he hpl) fun as B H σ ok Q q => Ok.two ha hb ok fun x y B2 H2 e2 o2 rx ry => by
    cases rx; cases ry
    have e : (if j > i then j else i) = max i j := by omega
    exact ⟨i, j, rfl, by rw [e]; exact q _ B2 H2 e2 o2 (.int _)⟩
theorem je_min2 {i j : Int} {V : WX} (C : Cok X V k) (hm : X.mg "min" = none) (ha : JE X W a s (.ok (.int i)) s1) (hb : JE X W b s1 (.ok (.int j)) s2) (hg : Gl X "min" := by rfl)
    (h1 : starEach (b :: []) X.env = (false, eval b X.env) :: starEach [] X.env := by rfl) (he : starEach (a :: [b]) X.env = (false, eval a X.env) :: starEach [b] X.env := by rfl) (hpl : (backTo pos (starEach [b] X.env)).any (·.1) = false := by rfl) :
    JE X W (.Call (.Name "min" p) [a, b] [] pos) s (.ok (.int (min i j))) s2 :=
  je_of (pe_callB (call_min2 C.calm) hg hm (by decide +kernel) (pa_cons pe_w (pa_cons pe_w pa_nil h1) he) (by decide) (by decide) he hpl) fun as B H σ ok Q q => Ok.two ha hb ok fun x y B2 H2 e2 o2 rx ry => by
    cases rx; cases ry
    have e : (if j < i then j else i) = min i j := by omega
    exact ⟨i, j, rfl, by rw [e]; exact q _ B2 H2 e2 o2 (.int _)⟩
end
end DL
set_option Elab.async false
set_option linter.all false
set_option maxRecDepth 100000
set_option maxHeartbeats 4000000
set_option autoImplicit true
/-! DLe: statements, loops, comprehensions -/
namespace DL
open PySem PySem.Spec PyProof.Rows L2
/-! ### the widest readings -/
def wS (X : Cx) (st : Stmt) : TS := fun D σ H => ∀ (pins : List (Addr × Obj)) (s : Shared), Inv X pins σ H s → wpAny (model X.prog X.w) X.A (exec st X.env) (SP X pins D) X.xe s
theorem ps_w {X : Cx} {st : Stmt} : PS X st (wS X st) := ⟨fun pins s σ H D I h => h pins s I⟩
theorem wS_of {X : Cx} {st : Stmt} {t : TS} {D : Ends} {σ : L2.St} {H : Hp} (h : PS X st t) (q : t D σ H) : wS X st D σ H := fun pins s I => h.run pins s σ H D I q
def wB (X : Cx) (st : List Stmt) : TS := fun D σ H => ∀ (pins : List (Addr × Obj)) (s : Shared), Inv X pins σ H s → wpAny (model X.prog X.w) X.A (execs st X.env) (SP X pins D) X.xe s
theorem pss_w {X : Cx} {st : List Stmt} : PSs X st (wB X st) := ⟨fun pins s σ H D I h => h pins s I⟩
theorem wB_of {X : Cx} {st : List Stmt} {t : TS} {D : Ends} {σ : L2.St} {H : Hp} (h : PSs X st t) (q : t D σ H) : wB X st D σ H := fun pins s I => h.run pins s σ H D I q
def wG (X : Cx) (tg : Expr) : TG := fun v σ H Q => ∀ (pins : List (Addr × Obj)) (s : Shared) (u : Value), Inv X pins σ H s → RelV v u → wpAny (model X.prog X.w) X.A (assign tg X.env u) (fun _ s' => ∃ σ' H', Inv X pins σ' H' s' ∧ Q σ' H') X.xe s
def wGs (X : Cx) (tgs : List Expr) : TGs := fun vs σ H Q => ∀ (pins : List (Addr × Obj)) (s : Shared) (us : List Value), Inv X pins σ H s → Vals vs us → wpAny (model X.prog X.w) X.A (assignInOrder ((assignEach tgs X.env).map (·.2)) us) (fun _ s' => ∃ σ' H', Inv X pins σ' H' s' ∧ Q σ' H') X.xe s
theorem pgs_w {X : Cx} {tgs : List Expr} : PGs X tgs (wGs X tgs) := ⟨fun pins s σ H vs us Q I r h => h pins s us I r⟩
theorem wGs_of {X : Cx} {tgs : List Expr} {g : TGs} {vs : List V} {σ : L2.St} {H : Hp} {Q : L2.St → Hp → Prop} (h : PGs X tgs g) (q : g vs σ H Q) : wGs X tgs vs σ H Q := fun pins s us I r => h.run pins s σ H vs us Q I r q
theorem pg_w {X : Cx} {tg : Expr} : PG X tg (wG X tg) := ⟨fun pins s σ H v u Q I r h => h pins s u I r⟩
theorem wG_of {X : Cx} {tg : Expr} {g : TG} {v : V} {σ : L2.St} {H : Hp} {Q : L2.St → Hp → Prop} (h : PG X tg g) (q : g v σ H Q) : wG X tg v σ H Q := fun pins s u I r => h.run pins s σ H v u Q I r q
def wI (X : Cx) (tg iter : Expr) : TI := fun σ H R => ∀ (pins : List (Addr × Obj)) (s : Shared), Inv X pins σ H s →
    wpAny (model X.prog X.w) X.A (eval iter X.env) (fun lv t1 => wpAny (model X.prog X.w) X.A (pyIter lv) (PIE X pins σ tg R) X.xe t1) X.xe s
theorem pi_w {X : Cx} {tg iter : Expr} : PI X tg iter (wI X tg iter) := ⟨fun pins s σ H R I h => h pins s I⟩
theorem wI_of {X : Cx} {tg iter : Expr} {t : TI} {σ : L2.St} {H : Hp} {R : It → Hp → Prop} (h : PI X tg iter t) (q : t σ H R) : wI X tg iter σ H R := fun pins s I => h.run pins s σ H R I q

/-- what is wanted behind a statement: next, return, break, continue, an error -/
structure Po where
  nx : A → Prop
  rt : D → List Cl → Prop
  bk : A → Prop
  ct : A → Prop
  ex : Addr → A → Prop
structure Fits (K : PySem.W.Frag) (W : WX) (as : List Addr) (B H : Hp) (P : Po) (Dn : Ends) : Prop where
  nx : ∀ as' B' H' σ' s', Ext as B H as' B' H' → Ok K as' B' H' σ' s' → P.nx s' → Dn.nx σ' H'
  rt : ∀ as' B' H' σ' s' v d, Ext as B H as' B' H' → Ok K as' B' H' σ' s' → Rep K B' v d → P.rt d s'.cl → Dn.rt v H'
  bk : ∀ as' B' H' σ' s', Ext as B H as' B' H' → Ok K as' B' H' σ' s' → P.bk s' → Dn.bk σ' H'
  ct : ∀ as' B' H' σ' s', Ext as B H as' B' H' → Ok K as' B' H' σ' s' → P.ct s' → Dn.ct σ' H'
  ex : ∀ as' B' H' σ' s' c, Ext as B H as' B' H' → Ok K as' B' H' σ' s' → P.ex c s' → W (.ref c) none σ' H'
theorem Fits.on {K : PySem.W.Frag} {W : WX} {as as1 : List Addr} {B H B1 H1 : Hp} {P : Po} {Dn : Ends} (f : Fits K W as B H P Dn) (e : Ext as B H as1 B1 H1) : Fits K W as1 B1 H1 P Dn :=
  ⟨fun as' B' H' σ' s' x => f.nx as' B' H' σ' s' (e.trans x), fun as' B' H' σ' s' v d x => f.rt as' B' H' σ' s' v d (e.trans x), fun as' B' H' σ' s' x => f.bk as' B' H' σ' s' (e.trans x), fun as' B' H' σ' s' x => f.ct as' B' H' σ' s' (e.trans x), fun as' B' H' σ' s' c x => f.ex as' B' H' σ' s' c (e.trans x)⟩
def JS (X : Cx) (W : WX) (st : Stmt) (s : A) (P : Po) : Prop := ∀ as B H σ, Ok X.K as B H σ s → ∀ Dn : Ends, Fits X.K W as B H P Dn → wS X st Dn σ H
def JB (X : Cx) (W : WX) (st : List Stmt) (s : A) (P : Po) : Prop := ∀ as B H σ, Ok X.K as B H σ s → ∀ Dn : Ends, Fits X.K W as B H P Dn → wB X st Dn σ H
/-- the item d is stored at a target -/
def JG (X : Cx) (tg : Expr) (d : D) (s : A) (R : A → Prop) : Prop := ∀ as B H σ v, Ok X.K as B H σ s → Rep X.K B v d → ∀ Q : L2.St → Hp → Prop, (∀ σ' s', Ok X.K as B H σ' s' → R s' → Q σ' H) → wG X tg v σ H Q
def JGs (X : Cx) (tgs : List Expr) (ds : List D) (s : A) (R : A → Prop) : Prop := ∀ as B H σ vs, Ok X.K as B H σ s → Reps X.K B vs ds → ∀ Q : L2.St → Hp → Prop, (∀ σ' s', Ok X.K as B H σ' s' → R s' → Q σ' H) → wGs X tgs vs σ H Q
/-- an iterator that gives ds, one by one, while B stays -/
structure ItD (K : PySem.W.Frag) (B : Hp) (J : It) (ds : List D) : Prop where
  go : ∀ i H, i < ds.length → Same B H → J.go i H
  stop : ∀ H, Same B H → J.stop ds.length H
  yld : ∀ i H v H', i < ds.length → Same B H → J.yld i H v H' → H' = H ∧ ∃ d, ds[i]? = some d ∧ Rep K B v d
def JI (X : Cx) (tg iter : Expr) (s : A) (ds : List D) (s' : A) : Prop := ∀ as B H σ, Ok X.K as B H σ s → ∀ R : It → Hp → Prop, (∀ J B' H', Ext as B H as B' H' → Ok X.K as B' H' σ s' → ItD X.K B' J ds → R J H') → wI X tg iter σ H R

section
variable {X : Cx} {W : WX} {k : Nat} {e a b c tg iter : Expr} {es rest tgs : List Expr} {st : Stmt} {sts body orelse : List Stmt} {s s' s1 s2 s3 : A} {P : Po} {d d' da db dc : D} {r : Res} {ds : List D} {xs ys : List D} {pos p2 p apos pos' : Pos} {x : Str} {β β1 β2 : Bool} {op : CmpOp} {l : List Sl}
theorem jb_nil (h : P.nx s) : JB X W [] s P := fun as B H σ ok Dn f => wB_of pss_nil (f.nx as B H σ s (Ext.refl ..) ok h)
/-- the end, some slots forgotten -/
theorem jb_end (e : Les s.sl l) (h : P.nx ⟨l, s.cl⟩) : JB X W [] s P := fun as B H σ ok Dn f => wB_of pss_nil (f.nx as B H σ _ (Ext.refl ..) (ok.less e) h)
theorem jb_less (e : Les s.sl l) (h : JB X W sts ⟨l, s.cl⟩ P) : JB X W sts s P := fun as B H σ ok Dn f => h as B H σ (ok.less e) Dn f
theorem jb_cons (h : JS X W st s { P with nx := fun s' => JB X W sts s' P }) : JB X W (st :: sts) s P := fun as B H σ ok Dn f =>
  wB_of (pss_cons ps_w pss_w) (h as B H σ ok { Dn with nx := wB X sts Dn } ⟨fun as' B' H' σ' s' x o z => z as' B' H' σ' o Dn (f.on x), f.rt, f.bk, f.ct, f.ex⟩)
/-- .. what is between is told by a word -/
theorem jb_cut (M : A → Prop) (h : JS X W st s { P with nx := M }) (k : ∀ s', M s' → JB X W sts s' P) : JB X W (st :: sts) s P :=
  jb_cons fun as B H σ ok Dn f => h as B H σ ok Dn ⟨fun as' B' H' σ' s' x o z => f.nx as' B' H' σ' s' x o (k s' z), f.rt, f.bk, f.ct, f.ex⟩
theorem jb_one (h : JS X W st s P) : JB X W [st] s P := jb_cons fun as B H σ ok Dn f => h as B H σ ok Dn ⟨fun as' B' H' σ' s' x o z => f.nx as' B' H' σ' s' x o (jb_nil z), f.rt, f.bk, f.ct, f.ex⟩
theorem js_of {t : TS} (h : PS X st t) (k : ∀ as B H σ, Ok X.K as B H σ s → ∀ Dn : Ends, Fits X.K W as B H P Dn → t Dn σ H) : JS X W st s P := fun as B H σ ok Dn f => wS_of h (k as B H σ ok Dn f)
/-! ### small statements -/
theorem js_pass (h : P.nx s) : JS X W (.Pass pos) s P := js_of ps_pass fun as B H σ ok Dn f => f.nx as B H σ s (Ext.refl ..) ok h
theorem js_break (h : P.bk s) : JS X W (.Break pos) s P := js_of ps_break fun as B H σ ok Dn f => f.bk as B H σ s (Ext.refl ..) ok h
theorem js_cont (h : P.ct s) : JS X W (.Continue pos) s P := js_of ps_continue fun as B H σ ok Dn f => f.ct as B H σ s (Ext.refl ..) ok h
theorem js_doc {z : Str} {j : Nat} (h : P.nx s) : JS X W (.Expr (.Constant (.str z) j pos) pos') s P := js_of ps_doc fun as B H σ ok Dn f => f.nx as B H σ s (Ext.refl ..) ok h
/-- x = e, i x's place -/
theorem js_set (i : Nat) {cl : List Cl} (C : Cok X W k) (he : JE X W e s (.ok d) s1) (hP : P.nx ⟨l, cl⟩) (hl : s1.sl.set i (.d d) = l := by (first | (dsimp only [List.set, List.length_cons, List.length_nil, List.cons_append, List.nil_append, Nat.reduceAdd]; done) | (dsimp only [List.set, List.length_cons, List.length_nil, List.cons_append, List.nil_append, Nat.reduceAdd]; exact rfl) | exact rfl)) (hcl : s1.cl = cl := by (first | (dsimp only [List.set, List.length_cons, List.length_nil, List.cons_append, List.nil_append, Nat.reduceAdd]; done) | (dsimp only [List.set, List.length_cons, List.length_nil, List.cons_append, List.nil_append, Nat.reduceAdd]; exact rfl) | exact rfl)) (hi : X.N[i]? = some x := by rfl) (hx : Loc X.env.scope x := by first | exact .inl rfl | exact .inr rfl) (hn : i < s1.sl.length := by exact of_decide_eq_true rfl) (hs : swapsWith e (some (.Name x pos')) pos.line X.env = pure false := by rfl) (hf : X.fn x = true ∨ X.env.scope.names.lookup x = some .local := by first | exact .inl rfl | exact .inr rfl) :
    JS X W (.Assign [.Name x pos'] e pos) s P := js_of (ps_set C.nd hi hx pe_w hs hf) fun as B H σ ok Dn f => he as B H σ ok _ fun v B' H' x o r => by
  have o2 := o.store (i := i) (o := some v) (x := .d d) hn ⟨v, rfl, r⟩
  rw [hl] at o2
  rw [← hcl] at hP
  exact f.nx as B' H' _ _ x o2 hP
theorem js_setE (i : Nat) {ce : Addr} (C : Cok X W k) (he : JE X W e s (.er ce) s1) (hP : P.ex ce s1) (hi : X.N[i]? = some x := by rfl) (hx : Loc X.env.scope x := by first | exact .inl rfl | exact .inr rfl) (hs : swapsWith e (some (.Name x pos')) pos.line X.env = pure false := by rfl) (hf : X.fn x = true ∨ X.env.scope.names.lookup x = some .local := by first | exact .inl rfl | exact .inr rfl) :
    JS X W (.Assign [.Name x pos'] e pos) s P := js_of (ps_set C.nd hi hx pe_w hs hf) fun as B H σ ok Dn f => he as B H σ ok _ fun B' H' x o => f.ex as B' H' _ _ _ x o hP
/-- x = e, a new list, to be changed: a cell -/
theorem Ok.adopt {K : PySem.W.Frag} {as : List Addr} {B H : Hp} {σ : L2.St} {p : Addr} {vs : List V} {xs : List D} (h : Ok K as B H σ s) (hp : p ∉ as) (hB : B p = none) (hH : H p = some (.lst vs)) (hv : Reps K B vs xs) : Ok K (as ++ [p]) B H σ ⟨s.sl, s.cl ++ [.lst xs]⟩ := by
  have hl := h.cs.1
  have split : ∀ {j : Nat} {a : Addr} {d : Cl}, (as ++ [p])[j]? = some a → (s.cl ++ [Cl.lst xs])[j]? = some d → (as[j]? = some a ∧ s.cl[j]? = some d) ∨ (a = p ∧ d = .lst xs) := fun {j a d} h1 h2 => by
    by_cases hj : j < as.length
    · rw [List.getElem?_append_left hj] at h1
      rw [List.getElem?_append_left (by omega)] at h2
      exact .inl ⟨h1, h2⟩
    · rw [List.getElem?_append_right (by omega)] at h1
      rw [List.getElem?_append_right (by omega)] at h2
      rw [hl] at h1
      cases e : j - s.cl.length with
      | zero => rw [e] at h1 h2; simp at h1 h2; exact .inr ⟨h1.symm, h2.symm⟩
      | succ n => rw [e] at h1; simp at h1
  refine ⟨h.sm, ?_, fun a ha => ?_, fun j a d h1 h2 h3 => ?_, ⟨by simp [hl], fun j a d h1 h2 => ?_⟩, h.ln, fun i x hx => (h.sl i x hx).mono (fun _ _ e => e) ⟨[p], rfl⟩⟩
  · rw [List.nodup_append]
    refine ⟨h.nd, by simp, fun a ha b hb => ?_⟩
    rw [List.mem_singleton.mp hb]
    exact fun z => hp (by rw [← z]; exact ha)
  · rcases List.mem_append.mp ha with ha | ha
    · exact h.ht a ha
    · rw [List.mem_singleton.mp ha, hH]; exact fun z => nomatch z
  · rcases split h1 h2 with ⟨h1, h2⟩ | ⟨rfl, rfl⟩
    · exact h.nb j a d h1 h2 h3
    · exact hB
  · rcases split h1 h2 with ⟨h1, h2⟩ | ⟨rfl, rfl⟩
    · exact (h.cs.2 j a d h1 h2).mono (fun _ _ e => e) ⟨[p], rfl⟩ fun _ u e => e
    · exact ⟨vs, hH, hv⟩
theorem Ext.adopt {as : List Addr} {B H B' H' : Hp} {p : Addr} (x : Ext as B H as B' H') (hp : H p = none) : Ext as B H (as ++ [p]) B' H' :=
  ⟨x.b, x.k, x.n, ⟨[p], rfl, fun a ha => by rw [List.mem_singleton.mp ha]; exact hp⟩, x.t⟩
theorem js_new (i : Nat) (C : Cok X W k) {cl : List Cl} (he : JF X e s xs s1) (hP : P.nx ⟨l, cl⟩) (hl : s1.sl.set i (.c s1.cl.length) = l := by (first | (dsimp only [List.set, List.length_cons, List.length_nil, List.cons_append, List.nil_append, Nat.reduceAdd]; done) | (dsimp only [List.set, List.length_cons, List.length_nil, List.cons_append, List.nil_append, Nat.reduceAdd]; exact rfl) | exact rfl)) (hcl : s1.cl ++ [.lst xs] = cl := by (first | (dsimp only [List.set, List.length_cons, List.length_nil, List.cons_append, List.nil_append, Nat.reduceAdd]; done) | (dsimp only [List.set, List.length_cons, List.length_nil, List.cons_append, List.nil_append, Nat.reduceAdd]; exact rfl) | exact rfl)) (hi : X.N[i]? = some x := by rfl) (hx : Loc X.env.scope x := by first | exact .inl rfl | exact .inr rfl) (hn : i < s1.sl.length := by exact of_decide_eq_true rfl) (hs : swapsWith e (some (.Name x pos')) pos.line X.env = pure false := by rfl) (hf : X.fn x = true ∨ X.env.scope.names.lookup x = some .local := by first | exact .inl rfl | exact .inr rfl) :
    JS X W (.Assign [.Name x pos'] e pos) s P := js_of (ps_set C.nd hi hx pe_w hs hf) fun as B H σ ok Dn f => he as B H σ ok _ fun p vs B' H' x o hp hB hH hr => by
  have o1 := o.adopt (free_lt ok hp) hB hH hr
  have hl1 := o.cs.1
  have o2 := o1.store (i := i) (o := some (.ref p)) (x := .c s1.cl.length) hn ⟨p, by rw [← hl1, List.getElem?_append_right (Nat.le_refl _)]; simp, rfl⟩
  dsimp only at o2
  rw [hl] at o2
  rw [← hcl] at hP
  exact f.nx _ B' H' _ _ (x.adopt hp) o2 hP
/-- the cell of slot i becomes a value -/
theorem js_freeze (i j : Nat) {cl : List Cl} (h : JS X W st ⟨l, cl⟩ P) (hi : s.sl[i]? = some (.c j) := by rfl) (hc : s.cl[j]? = some (.lst xs) := by rfl) (hl : s.sl.set i (.d (.lst xs)) = l := by (first | (dsimp only [List.set, List.length_cons, List.length_nil, List.cons_append, List.nil_append, Nat.reduceAdd]; done) | (dsimp only [List.set, List.length_cons, List.length_nil, List.cons_append, List.nil_append, Nat.reduceAdd]; exact rfl) | exact rfl)) (hcl : s.cl.set j .dead = cl := by (first | (dsimp only [List.set, List.length_cons, List.length_nil, List.cons_append, List.nil_append, Nat.reduceAdd]; done) | (dsimp only [List.set, List.length_cons, List.length_nil, List.cons_append, List.nil_append, Nat.reduceAdd]; exact rfl) | exact rfl)) : JS X W st s P := fun as B H σ ok Dn f => by
  obtain ⟨a, e1, ha⟩ := cell_of ok hi
  obtain ⟨vs, hH, hv⟩ := ok.cs.2 j a _ ha hc
  obtain ⟨o1, x1⟩ := ok.freeze ha hc True.intro hH
  have o2 := o1.tell (i := i) (x := .d (.lst xs)) ⟨.ref a, by rw [e1]; rfl, .lst upd_same (hv.mono x1.b)⟩
  dsimp only at o2
  rw [hl, hcl] at o2
  exact h as _ H σ o2 Dn (f.on x1)
theorem jb_freeze (i j : Nat) {cl : List Cl} (h : JB X W sts ⟨l, cl⟩ P) (hi : s.sl[i]? = some (.c j) := by rfl) (hc : s.cl[j]? = some (.lst xs) := by rfl) (hl : s.sl.set i (.d (.lst xs)) = l := by (first | (dsimp only [List.set, List.length_cons, List.length_nil, List.cons_append, List.nil_append, Nat.reduceAdd]; done) | (dsimp only [List.set, List.length_cons, List.length_nil, List.cons_append, List.nil_append, Nat.reduceAdd]; exact rfl) | exact rfl)) (hcl : s.cl.set j .dead = cl := by (first | (dsimp only [List.set, List.length_cons, List.length_nil, List.cons_append, List.nil_append, Nat.reduceAdd]; done) | (dsimp only [List.set, List.length_cons, List.length_nil, List.cons_append, List.nil_append, Nat.reduceAdd]; exact rfl) | exact rfl)) : JB X W sts s P := fun as B H σ ok Dn f => by
  obtain ⟨a, e1, ha⟩ := cell_of ok hi
  obtain ⟨vs, hH, hv⟩ := ok.cs.2 j a _ ha hc
  obtain ⟨o1, x1⟩ := ok.freeze ha hc True.intro hH
  have o2 := o1.tell (i := i) (x := .d (.lst xs)) ⟨.ref a, by rw [e1]; rfl, .lst upd_same (hv.mono x1.b)⟩
  dsimp only at o2
  rw [hl, hcl] at o2
  exact h as _ H σ o2 Dn (f.on x1)
theorem js_expr (he : JE X W e s (.ok d) s1) (hP : P.nx s1) (hs : swapsWith e none pos.line X.env = pure false := by rfl) : JS X W (.Expr e pos) s P := js_of (ps_expr pe_w hs) fun as B H σ ok Dn f => he as B H σ ok _ fun v B' H' x o r => f.nx as B' H' σ s1 x o hP
theorem js_exprE {ce : Addr} (he : JE X W e s (.er ce) s1) (hP : P.ex ce s1) (hs : swapsWith e none pos.line X.env = pure false := by rfl) : JS X W (.Expr e pos) s P := js_of (ps_expr pe_w hs) fun as B H σ ok Dn f => he as B H σ ok _ fun B' H' x o => f.ex as B' H' _ _ _ x o hP
theorem js_ret (he : JE X W e s (.ok d) s1) (hP : P.rt d s1.cl) : JS X W (.Return (some e) pos) s P := js_of (ps_ret pe_w) fun as B H σ ok Dn f => he as B H σ ok _ fun v B' H' x o r => f.rt as B' H' σ s1 v d x o r hP
theorem js_retE {ce : Addr} (he : JE X W e s (.er ce) s1) (hP : P.ex ce s1) : JS X W (.Return (some e) pos) s P := js_of (ps_ret pe_w) fun as B H σ ok Dn f => he as B H σ ok _ fun B' H' x o => f.ex as B' H' _ _ _ x o hP
theorem js_if (ht : JT X c s β) (h1 : β = true → JB X W body s P) (h2 : β = false → JB X W orelse s P) : JS X W (.If c body orelse pos) s P := js_of (ps_if pt_w pss_w pss_w) fun as B H σ ok Dn f => ht as B H σ ok _ fun B1 H1 e1 o1 => by
  cases β with
  | true => exact iteT (h1 rfl as B1 H1 σ o1 Dn (f.on e1))
  | false => exact iteF (h2 rfl as B1 H1 σ o1 Dn (f.on e1))
/-- l.append(e), l a cell -/
theorem js_app (i j : Nat) {cl : List Cl} (he : JE X WN e s (.ok d) s1) (hlen : xs.length < sizeLine) (hP : P.nx ⟨l, cl⟩) (hsl : s1.sl = l := by (first | (dsimp only [List.set, List.length_cons, List.length_nil, List.cons_append, List.nil_append, Nat.reduceAdd]; done) | (dsimp only [List.set, List.length_cons, List.length_nil, List.cons_append, List.nil_append, Nat.reduceAdd]; exact rfl) | exact rfl)) (hi : s.sl[i]? = some (.c j) := by rfl) (hc0 : ∃ zs, s.cl[j]? = some (.lst zs) := by exact ⟨_, rfl⟩) (hc : s1.cl[j]? = some (.lst xs) := by rfl) (hcl : s1.cl.set j (.lst (xs ++ [d])) = cl := by (first | (dsimp only [List.set, List.length_cons, List.length_nil, List.cons_append, List.nil_append, Nat.reduceAdd]; done) | (dsimp only [List.set, List.length_cons, List.length_nil, List.cons_append, List.nil_append, Nat.reduceAdd]; exact rfl) | exact rfl)) (hN : X.N[i]? = some x := by rfl)
    (hv : Vis X.env.scope x := by first | exact Or.inl rfl | exact Or.inr (Or.inl rfl) | exact Or.inr (Or.inr rfl)) (hd1 : (x == ("__debug__" : Str)) = false := by decide) (hd2 : (x == ("__classdict__" : Str)) = false := by decide)
    (hbase : attributeBase (.Name x p2) "append" X.env (eval (.Name x p2) X.env) = eval (.Name x p2) X.env := by rfl)
    (hfew : ((backTo p (starEach (e :: []) X.env)).all (fun x => !x.1) && (backToKw p (keywordEach [] X.env)).all (fun x => x.1.isSome)
      && decide ((e :: []).length + ([] : List Keyword).length + (if ([] : List Keyword).isEmpty then 0 else 1) < 30)) = true := by rfl)
    (hline : (apos.endLine == p.line) = true := by rfl) (hs : starEach (e :: []) X.env = (false, eval e X.env) :: starEach [] X.env := by rfl) (hplain : (backTo p (starEach [] X.env)).any (·.1) = false := by rfl)
    (hsw : swapsWith (.Call (.Attribute (.Name x p2) "append" apos) [e] [] p) none pos.line X.env = pure false := by rfl) :
    JS X W (.Expr (.Call (.Attribute (.Name x p2) "append" apos) [e] [] p) pos) s P :=
  js_of (ps_expr (pe_bm PySem.F.plainAttrs_list PySem.F.slot_list_append PySem.F.type_list_append mt_append (pe_var hN hv hd1 hd2) (pa_cons pe_w pa_nil hs) hbase hfew hline hs hplain) hsw) fun as B H σ ok Dn f => by
    obtain ⟨a, e1, ha⟩ := cell_of ok hi
    obtain ⟨zs, hz⟩ := hc0
    obtain ⟨us, hu, _⟩ := ok.cs.2 j a _ ha hz
    refine ⟨.ref a, e1, .inl ⟨rfl, _, .inl (.inl hu)⟩, Ok.one he ok fun v B1 H1 x1 o1 r1 => ?_⟩
    obtain ⟨vs, hH, hv⟩ := o1.cs.2 j a _ ha hc
    obtain ⟨o2, x2⟩ := o1.wr (o := .lst (vs ++ [v])) (c' := .lst (xs ++ [d])) ha hc True.intro ⟨_, upd_same, hv.append (.cons r1 .nil)⟩
    rw [hcl] at o2
    rw [← hsl] at hP
    exact ⟨a, vs, v, rfl, rfl, hH, by rw [hv.length]; exact hlen, f.nx as _ _ σ _ (x1.trans x2) o2 hP⟩
/-- l[e2] = e, l a cell -/
theorem js_setix (i j : Nat) {cl : List Cl} {n : Int} {m : Nat} (he : JE X WN e s (.ok d) s1) (hb : JE X WN b s1 (.ok (.int n)) s2) (hix : ixN xs.length n = some m) (hP : P.nx ⟨l, cl⟩) (hsl : s2.sl = l := by (first | (dsimp only [List.set, List.length_cons, List.length_nil, List.cons_append, List.nil_append, Nat.reduceAdd]; done) | (dsimp only [List.set, List.length_cons, List.length_nil, List.cons_append, List.nil_append, Nat.reduceAdd]; exact rfl) | exact rfl)) (hi : s1.sl[i]? = some (.c j) := by rfl) (hc : s2.cl[j]? = some (.lst xs) := by rfl) (hcl : s2.cl.set j (.lst (xs.set m d)) = cl := by (first | (dsimp only [List.set, List.length_cons, List.length_nil, List.cons_append, List.nil_append, Nat.reduceAdd]; done) | (dsimp only [List.set, List.length_cons, List.length_nil, List.cons_append, List.nil_append, Nat.reduceAdd]; exact rfl) | exact rfl)) (hN : X.N[i]? = some x := by rfl)
    (hv : Vis X.env.scope x := by first | exact Or.inl rfl | exact Or.inr (Or.inl rfl) | exact Or.inr (Or.inr rfl)) (hd1 : (x == ("__debug__" : Str)) = false := by decide) (hd2 : (x == ("__classdict__" : Str)) = false := by decide)
    (ha : ∀ v, assign (.Subscript (.Name x p2) b p) X.env v = (do
      let ov ← holding [v] (eval (.Name x p2) X.env)
      let iv ← holding [v, ov] (eval b X.env)
      standAt p; holding [v, ov, iv] (setItem ov iv v); release [v, ov, iv] []) := by intro _; rfl)
    (hs : swapsWithSole [.Subscript (.Name x p2) b p] e pos.line X.env = pure false := by rfl) (hw : swappedStores [.Subscript (.Name x p2) b p] e X.env = pure none := by rfl)
    (h1 : (assignEach [.Subscript (.Name x p2) b p] X.env).map (·.2) = [assign (.Subscript (.Name x p2) b p) X.env] := by rfl) :
    JS X W (.Assign [.Subscript (.Name x p2) b p] e pos) s P :=
  js_of (ps_asg pe_w (pg_sub (pe_var hN hv hd1 hd2) pe_w set_list ha) hs hw h1) fun as B H σ ok Dn f => Ok.one he ok fun v B1 H1 x1 o1 r1 => by
    obtain ⟨a, e1, ha⟩ := cell_of o1 hi
    refine ⟨.ref a, e1, Ok.one hb o1 fun y B2 H2 x2 o2 r2 => ?_⟩
    cases r2
    obtain ⟨vs, hH, hv⟩ := o2.cs.2 j a _ ha hc
    obtain ⟨o3, x3⟩ := o2.wr (o := .lst (vs.set m v)) (c' := .lst (xs.set m d)) ha hc True.intro ⟨_, upd_same, hv.set (r1.mono x2.b) m⟩
    rw [hcl] at o3
    rw [← hsl] at hP
    exact ⟨a, vs, n, m, rfl, rfl, hH, by rw [hv.length]; exact hix, f.nx as _ _ σ _ ((x1.trans x2).trans x3) o3 hP⟩

/-! ### targets -/
theorem jg_name (i : Nat) {R : A → Prop} {cl : List Cl} (hnd : X.N.Nodup) (hR : R ⟨l, cl⟩) (hl : s.sl.set i (.d d) = l := by (first | (dsimp only [List.set, List.length_cons, List.length_nil, List.cons_append, List.nil_append, Nat.reduceAdd]; done) | (dsimp only [List.set, List.length_cons, List.length_nil, List.cons_append, List.nil_append, Nat.reduceAdd]; exact rfl) | exact rfl)) (hcl : s.cl = cl := by (first | (dsimp only [List.set, List.length_cons, List.length_nil, List.cons_append, List.nil_append, Nat.reduceAdd]; done) | (dsimp only [List.set, List.length_cons, List.length_nil, List.cons_append, List.nil_append, Nat.reduceAdd]; exact rfl) | exact rfl)) (hi : X.N[i]? = some x := by rfl) (hx : Loc X.env.scope x := by first | exact .inl rfl | exact .inr rfl) (hn : i < s.sl.length := by exact of_decide_eq_true rfl) (hf : X.fn x = true ∨ X.env.scope.names.lookup x = some .local := by first | exact .inl rfl | exact .inr rfl) :
    JG X (.Name x pos) d s R := fun as B H σ v ok r Q q => wG_of (pg_name hnd hi hx hf) (by
  have o2 := ok.store (i := i) (o := some v) (x := .d d) hn ⟨v, rfl, r⟩
  rw [hl] at o2
  rw [← hcl] at hR
  exact q _ _ o2 hR)
theorem jgs_nil {R : A → Prop} (h : R s) : JGs X [] [] s R := fun as B H σ vs ok r Q q => by
  cases r
  exact wGs_of pgs_nil ⟨rfl, q σ s ok h⟩
theorem jgs_cons {R : A → Prop} (h : JG X e d s fun s' => JGs X tgs ds s' R) (hs : (assignEach (e :: tgs) X.env).map (·.2) = assign e X.env :: (assignEach tgs X.env).map (·.2) := by rfl) : JGs X (e :: tgs) (d :: ds) s R := fun as B H σ vs ok r Q q => by
  cases r with
  | @cons v vr _ _ r1 r2 => exact wGs_of (pgs_cons pg_w pgs_w hs) ⟨v, vr, rfl, h as B H σ v ok r1 _ fun σ' s' o z => z as B H σ' vr o r2 Q q⟩
theorem jg_tup {R : A → Prop} {j : Nat} {n : Nat} (C : X.calm = true) (h : JGs X es ds s R) (hl : ds.length = n) (hn : (assignEach es X.env).length = n := by rfl) (hst : (assignEach es X.env).findIdx? (·.1) = none := by rfl) : JG X (.Tuple es j pos) (.tup ds) s R :=
  fun as B H σ v ok r Q q => wG_of (pg_tup C pgs_w hn hst) (by
    cases r with
    | tup ha hv => exact ⟨_, _, rfl, same_t ok.sm ha, hv.length.trans hl, h as B H σ _ ok hv Q q⟩)
/-- target = e -/
theorem js_asg (he : JE X W e s (.ok d) s1) (hg : JG X tg d s1 P.nx) (hs : swapsWithSole [tg] e pos.line X.env = pure false := by rfl) (hw : swappedStores [tg] e X.env = pure none := by rfl)
    (h1 : (assignEach [tg] X.env).map (·.2) = [assign tg X.env] := by rfl) : JS X W (.Assign [tg] e pos) s P :=
  js_of (ps_asg pe_w pg_w hs hw h1) fun as B H σ ok Dn f => Ok.one he ok fun v B1 H1 x1 o1 r1 => hg as B1 H1 σ v o1 r1 _ fun σ' s' o z => f.nx as B1 H1 σ' s' x1 o z

/-! ### loops -/
theorem ji_list (h : JE X WN e s (.ok (.lst ds)) s1) : JI X tg e s ds s1 := fun as B H σ ok R q => wI_of (pi_list pe_w) (Ok.one h ok fun v B1 H1 x1 o1 r1 => by
  cases r1 with
  | @lst a vs _ ha hv =>
    refine ⟨a, rfl, ⟨vs, .inl (.inl (o1.sm _ _ ha))⟩, q _ B1 H1 x1 o1 ⟨fun i H' hi sm => ?_, fun H' sm => ?_, fun i H' w H'' hi sm y => ?_⟩⟩
    · have hl := hv.length
      exact ⟨vs, vs[i]'(by omega), .inl (.inl (sm _ _ ha)), List.getElem?_eq_getElem _⟩
    · exact ⟨vs, .inl (.inl (sm _ _ ha)), Nat.le_of_eq hv.length⟩
    · obtain ⟨e1, e2⟩ := y
      exact ⟨e1, hv.getV (e2 vs (.inl (.inl (sm _ _ ha))))⟩)
theorem ji_tup (h : JE X WN e s (.ok (.tup ds)) s1) : JI X tg e s ds s1 := fun as B H σ ok R q => wI_of (pi_tup pe_w) (Ok.one h ok fun v B1 H1 x1 o1 r1 => by
  cases r1 with
  | @tup a vs _ ha hv =>
    refine ⟨a, rfl, ⟨vs, same_t o1.sm ha⟩, q _ B1 H1 x1 o1 ⟨fun i H' hi sm => ?_, fun H' sm => ?_, fun i H' w H'' hi sm y => ?_⟩⟩
    · have hl := hv.length
      exact ⟨vs, vs[i]'(by omega), same_t sm ha, List.getElem?_eq_getElem _⟩
    · exact ⟨vs, same_t sm ha, Nat.le_of_eq hv.length⟩
    · obtain ⟨e1, e2⟩ := y
      exact ⟨e1, hv.getV (e2 vs (same_t sm ha))⟩)
def rngD (lo : Int) (n : Nat) : List D := (List.range n).map fun i => .int (lo + (i : Nat))
theorem rngD_len {lo : Int} {n : Nat} : (rngD lo n).length = n := by unfold rngD; rw [List.length_map, List.length_range]
theorem itd_range {K : PySem.W.Frag} {B : Hp} {lo : Int} {n : Nat} : ItD K B (Itr lo n) (rngD lo n) :=
  ⟨fun i H hi _ => by rw [rngD_len] at hi; exact hi, fun H _ => by rw [rngD_len]; exact Nat.le_refl _, fun i H v H' hi _ y => by
    obtain ⟨e1, e2⟩ := y
    rw [rngD_len] at hi
    subst e2
    exact ⟨e1, .int (lo + i), by unfold rngD; rw [List.getElem?_map, List.getElem?_range hi]; rfl, .int _⟩⟩
theorem itd_cast {K : PySem.W.Frag} {B : Hp} {lo : Int} {n : Nat} {f : Nat → D} (h : ∀ i, f i = .int (lo + (i : Nat))) : ItD K B (Itr lo n) ((List.range n).map f) := by
  have e : (List.range n).map f = rngD lo n := by
    unfold rngD
    exact List.map_congr_left fun i _ => h i
  rw [e]
  exact itd_range
theorem ji_range1 {n : Nat} (hm : X.mg "range" = none) (h : JE X WN a s (.ok (.int (n : Nat))) s1) (hn : n < 2 ^ 62) (hg : Gl X "range" := by rfl) (h1 : starEach [a] X.env = (false, eval a X.env) :: starEach [] X.env := by rfl) (hs : starEach [a] X.env = [(false, eval a X.env)] := by rfl) : JI X tg (.Call (.Name "range" p) [a] [] pos) s ((List.range n).map fun i : Nat => D.int (i : Nat)) s1 :=
  fun as B H σ ok R q => wI_of (pi_range1 hg hm (pa_cons pe_w pa_nil h1) hs) (Ok.one h ok fun v B1 H1 x1 o1 r1 => by
    cases r1
    exact ⟨n, rfl, by omega, by omega, q _ B1 H1 x1 o1 (itd_cast fun i => by rw [Int.zero_add])⟩)
theorem ji_range2 {lo hi : Nat} (hm : X.mg "range" = none) (h : JE X WN a s (.ok (.int (lo : Nat))) s1) (h' : JE X WN b s1 (.ok (.int (hi : Nat))) s2) (hn : lo < 2 ^ 62 ∧ hi < 2 ^ 62) (hg : Gl X "range" := by rfl) (h1 : starEach (b :: []) X.env = (false, eval b X.env) :: starEach [] X.env := by rfl) (h2 : starEach (a :: [b]) X.env = (false, eval a X.env) :: starEach [b] X.env := by rfl)
    (hs : starEach [a, b] X.env = [(false, eval a X.env), (false, eval b X.env)] := by rfl) (hs2 : starEach [b] X.env = [(false, eval b X.env)] := by rfl) : JI X tg (.Call (.Name "range" p) [a, b] [] pos) s ((List.range (hi - lo)).map fun i : Nat => D.int ((lo + i : Nat) : Int)) s2 :=
  fun as B H σ ok R q => wI_of (pi_range2 hg hm (pa_cons pe_w (pa_cons pe_w pa_nil h1) h2) hs hs2) (Ok.two h h' ok fun x y B2 H2 x2 o2 rx ry => by
    cases rx; cases ry
    have e : ((hi : Int) - (lo : Int)).toNat = hi - lo := by omega
    exact ⟨lo, hi, rfl, by omega, q _ B2 H2 x2 o2 (by rw [e]; exact itd_cast fun i => by rw [Int.natCast_add])⟩)
/-- for: I by the turn and the state -/
theorem js_for (I : Nat → A → Prop) (C : Cok X W k) (hi : JI X tg iter s ds s1) (h0 : I 0 s1) (hs : ∀ i d s', ds[i]? = some d → I i s' → JG X tg d s' fun s2 => JB X W body s2 { P with nx := I (i + 1), ct := I (i + 1), bk := P.nx }) (hd : ∀ s', I ds.length s' → P.nx s')
    (hf : ∀ x, foldedSetIterable iter X.env x = pure x := by intro _; rfl) : JS X W (.For tg iter body [] pos) s P :=
  js_of (ps_for C.hp C.calm pi_w pg_w pss_w hf) fun as B H σ ok Dn f => hi as B H σ ok _ fun J B1 H1 x1 o1 it => by
    refine ⟨fun i m σ' H' => m = ds.length - i ∧ i ≤ ds.length ∧ ∃ as' B' s', Ext as B1 H1 as' B' H' ∧ Ok X.K as' B' H' σ' s' ∧ I i s', ⟨ds.length, by simp, Nat.zero_le _, as, B1, s1, Ext.refl .., o1, h0⟩, ?_⟩
    rintro i m σ' H' ⟨rfl, hle, as', B', s', x2, o2, hI⟩
    have sm : Same B1 H' := x2.b.trans o2.sm
    by_cases hlt : i < ds.length
    · refine .inr ⟨it.go i H' hlt sm, fun σ2 H2 => ∃ as2 B2 s2, Ext as' B' H' as2 B2 H2 ∧ Ok X.K as2 B2 H2 σ2 s2 ∧ I (i + 1) s2, fun σ2 H2 ⟨as2, B2, s2, x3, o3, h3⟩ => ⟨ds.length - (i + 1), by omega, rfl, hlt, as2, B2, s2, x2.trans x3, o3, h3⟩, fun v H2 y => ?_⟩
      obtain ⟨rfl, d, hd', r⟩ := it.yld i H' v H2 hlt sm y
      refine hs i d s' hd' hI as' B' H2 σ' v o2 (r.mono x2.b) _ fun σ3 s3 o3 h3 => ?_
      exact h3 as' B' H2 σ3 o3 _ ⟨fun as4 B4 H4 σ4 s4 x4 o4 z => ⟨as4, B4, s4, x4, o4, z⟩, fun as4 B4 H4 σ4 s4 v d x4 => f.rt as4 B4 H4 σ4 s4 v d ((x1.trans x2).trans x4), fun as4 B4 H4 σ4 s4 x4 => f.nx as4 B4 H4 σ4 s4 ((x1.trans x2).trans x4),
        fun as4 B4 H4 σ4 s4 x4 o4 z => ⟨as4, B4, s4, x4, o4, z⟩, fun as4 B4 H4 σ4 s4 c x4 => f.ex as4 B4 H4 σ4 s4 c ((x1.trans x2).trans x4)⟩
    · have e : i = ds.length := by omega
      subst e
      exact .inl ⟨it.stop H' sm, f.nx as' B' H' σ' s' (x1.trans x2) o2 (hd s' hI)⟩
/-- while: I by a measure and the state -/
theorem js_while (I : Nat → A → Prop) (C : Cok X W k) {m0 : Nat} (h0 : I m0 s) (hs : ∀ m s', I m s' → ∃ β, JT X c s' β ∧ (β = true → JB X W body s' { P with nx := fun s2 => ∃ m', m' < m ∧ I m' s2, ct := fun s2 => ∃ m', m' < m ∧ I m' s2, bk := P.nx }) ∧ (β = false → P.nx s')) :
    JS X W (.While c body [] pos) s P :=
  js_of (ps_while C.hp pt_w pss_w) fun as B H σ ok Dn f => by
    refine ⟨fun m σ' H' => ∃ as' B' s', Ext as B H as' B' H' ∧ Ok X.K as' B' H' σ' s' ∧ I m s', ⟨m0, as, B, s, Ext.refl .., ok, h0⟩, ?_⟩
    rintro m σ' H' ⟨as', B', s', x1, o1, hI⟩
    obtain ⟨β, ht, h1, h2⟩ := hs m s' hI
    refine ht as' B' H' σ' o1 _ fun B2 H2 x2 o2 => ?_
    cases β with
    | true =>
      refine iteT ⟨fun σ3 H3 => ∃ m', m' < m ∧ ∃ as3 B3 s3, Ext as B H as3 B3 H3 ∧ Ok X.K as3 B3 H3 σ3 s3 ∧ I m' s3, fun σ3 H3 z => z, ?_⟩
      exact h1 rfl as' B2 H2 σ' o2 _ ⟨fun as4 B4 H4 σ4 s4 x4 o4 ⟨m', hm, z⟩ => ⟨m', hm, as4, B4, s4, (x1.trans x2).trans x4, o4, z⟩, fun as4 B4 H4 σ4 s4 v d x4 => f.rt as4 B4 H4 σ4 s4 v d ((x1.trans x2).trans x4), fun as4 B4 H4 σ4 s4 x4 => f.nx as4 B4 H4 σ4 s4 ((x1.trans x2).trans x4),
        fun as4 B4 H4 σ4 s4 x4 o4 ⟨m', hm, z⟩ => ⟨m', hm, as4, B4, s4, (x1.trans x2).trans x4, o4, z⟩, fun as4 B4 H4 σ4 s4 c x4 => f.ex as4 B4 H4 σ4 s4 c ((x1.trans x2).trans x4)⟩
    | false => exact iteF (f.nx as' B2 H2 σ' s' (x1.trans x2) o2 (h2 rfl))
end
end DL
set_option Elab.async false
set_option linter.all false
set_option maxRecDepth 100000
set_option maxHeartbeats 4000000
set_option autoImplicit true
/-! DLf: comprehensions, defs and their calls, raise -/
namespace DL
open PySem PySem.Spec PyProof.Rows L2

/-! ### comprehensions -/
section
variable {K : PySem.W.Frag} {as : List Addr} {B B' B0 H H0 H' : Hp} {σ : L2.St} {s : A} {p : Addr} {o : HO}
theorem Ok.poke (h : Ok K as B H σ s) (hp : p ∉ as) (hB : B p = none) : Ok K as B (upd H p o) σ s where
  sm := fun a u e => by rw [upd_ne (ne_of_none e hB)]; exact h.sm _ _ e
  nd := h.nd
  ht := fun a ha => by rw [upd_ne (fun z => hp (by rw [← z]; exact ha))]; exact h.ht a ha
  nb := h.nb
  cs := ⟨h.cs.1, fun j a c h1 h2 => (h.cs.2 j a c h1 h2).mono (fun _ _ e => e) ⟨[], by simp⟩ fun _ u e => by rw [upd_ne (fun z => hp (by rw [← z]; exact List.mem_of_getElem? h1))]; exact e⟩
  ln := h.ln
  sl := h.sl
theorem Ext.poke (x : Ext as B0 H0 as B H) (hp : H0 p = none) : Ext as B0 H0 as B (upd H p o) :=
  ⟨x.b, fun a u ha e => by rw [upd_ne (ne_of_none e hp)]; exact x.k a u ha e, x.n, ⟨[], by simp, fun _ z => nomatch z⟩, fun a ha => by
    by_cases e : a = p
    · rw [e] at ha; exact absurd hp ha
    · rw [upd_ne e]; exact x.t a ha⟩
end
def wipeL (sl : List Sl) : List Nat → List Sl
  | [] => sl
  | v :: vs => (wipeL sl vs).set v .u
theorem wipeL_length (sl : List Sl) : ∀ vs, (wipeL sl vs).length = sl.length
  | [] => rfl
  | v :: vs => by rw [wipeL, List.length_set, wipeL_length sl vs]
theorem Ok.wiped {K : PySem.W.Frag} {as : List Addr} {B H : Hp} {σ : L2.St} {s : A} (h : Ok K as B H σ s) : ∀ vs : List Nat, (∀ v ∈ vs, v < s.sl.length) → Ok K as B H (wipe σ vs) ⟨wipeL s.sl vs, s.cl⟩
  | [], _ => h
  | v :: vs, hv => by
    have z := Ok.wiped h vs fun w hw => hv w (List.mem_cons_of_mem _ hw)
    exact z.store (i := v) (o := none) (x := .u) (by rw [wipeL_length]; exact hv v List.mem_cons_self) True.intro
/-- a comprehension's target: what it does to the slots -/
structure Tgt (K : PySem.W.Frag) (g : TG) (vs : List Nat) (n : Nat) (upd : D → List Sl → List Sl → Prop) : Prop where
  lt : ∀ v ∈ vs, v < n
  go : ∀ {as B H σ s d v sl'}, Ok K as B H (wipe σ vs) s → s.sl.length = n → Rep K B v d → upd d s.sl sl' → ∀ Q : L2.St → Hp → Prop, (∀ σ', Ok K as B H σ' ⟨sl', s.cl⟩ → wipe σ' vs = wipe σ vs → Q σ' H) → g v (wipe σ vs) H Q
def updN (i : Nat) : D → List Sl → List Sl → Prop := fun d l m => l.set i (.d d) = m
def updP (i j : Nat) : D → List Sl → List Sl → Prop := fun d l m => ∃ d1 d2, d = .tup [d1, d2] ∧ (l.set i (.d d1)).set j (.d d2) = m
theorem tgt_name {K : PySem.W.Frag} {i n : Nat} (hi : i < n) : Tgt K (gName i) [i] n (updN i) where
  lt := fun v hv => by rw [List.mem_singleton.mp hv]; exact hi
  go := fun {as B H σ s d v sl'} ok hl r e Q q => by
    have o2 := ok.store (i := i) (o := some v) (x := .d d) (by omega) ⟨v, rfl, r⟩
    have e' : s.sl.set i (.d d) = sl' := e
    rw [e'] at o2
    refine q _ o2 ?_
    show ((σ.set i none).set i (some v)).set i none = σ.set i none
    rw [List.set_set, List.set_set]
theorem tgt_pair {K : PySem.W.Frag} {i j n : Nat} (hi : i < n) (hj : j < n) (hij : i ≠ j) : Tgt K (gTup K 2 (gCons (gName i) (gCons (gName j) gNil))) [i, j] n (updP i j) where
  lt := fun v hv => by
    rcases List.mem_cons.mp hv with e | hv
    · rw [e]; exact hi
    · rw [List.mem_singleton.mp hv]; exact hj
  go := fun {as B H σ s d v sl'} ok hl r e Q q => by
    obtain ⟨d1, d2, rfl, e'⟩ := e
    cases r with
    | tup ha hv =>
      cases hv with
      | @cons v1 _ _ _ r1 hv =>
        cases hv with
        | @cons v2 _ _ _ r2 hv =>
          cases hv
          refine ⟨_, _, rfl, same_t ok.sm ha, rfl, v1, [v2], rfl, v2, [], rfl, rfl, ?_⟩
          have o2 := ok.store (i := i) (o := some v1) (x := .d d1) (by omega) ⟨v1, rfl, r1⟩
          have o3 := o2.store (i := j) (o := some v2) (x := .d d2) (by rw [List.length_set]; omega) ⟨v2, rfl, r2⟩
          dsimp only at o3
          rw [e'] at o3
          refine q _ o3 ?_
          show (((((σ.set j none).set i none).set i (some v1)).set j (some v2)).set j none).set i none = (σ.set j none).set i none
          rw [List.set_set, List.set_set, List.set_comm _ _ (Ne.symm hij), List.set_comm _ _ (Ne.symm hij), List.set_comm _ _ hij, List.set_set]
          rw [List.set_comm _ _ (Ne.symm hij), List.set_set]
          exact List.set_comm _ _ hij
section
variable {X : Cx} {W : WX} {k : Nat} {e a b c tg iter elt : Expr} {es rest tgs ifs : List Expr} {st : Stmt} {sts body orelse : List Stmt} {s s' s1 s2 s3 : A} {P : Po} {d d' da db dc : D} {r : Res} {ds : List D} {xs ys : List D} {pos p2 p apos pos' : Pos} {x : Str} {β β1 β2 : Bool} {op : CmpOp} {l : List Sl} {scope : Scope} {own : List (Str × Nat)}
/-- what holds in every block of the comprehension -/
def Blk (X : Cx) (scope : Scope) (p : Cx → Prop) : Prop := ∀ (s : Shared) (H : Hp) (C : Addr) (cl : List (Str × Addr)) (fp : List Addr), p (X.blk s H scope (compEnvC scope cl C X.env) fp)
def tBE (X : Cx) (scope : Scope) (e : Expr) : TE := fun σ H Q => Blk X scope fun Y => wE Y e σ H Q
def tBT (X : Cx) (scope : Scope) (e : Expr) : TT := fun σ H Q => Blk X scope fun Y => wT Y e σ H Q
/-- the test of a comprehension -/
def JTs (X : Cx) (scope : Scope) (ifs : List Expr) (s : A) (β : Bool) : Prop := match ifs with
  | [] => β = true
  | [c] => Blk X scope fun Y => JT Y c s β
  | _ => False
def tBTs (X : Cx) (scope : Scope) (ifs : List Expr) : TT := match ifs with
  | [] => tYes
  | [c] => tBT X scope c
  | _ => fun _ _ _ => False
theorem pts_w (h : ifs.length ≤ 1) : Blk X scope fun Y => PTs Y ifs (tBTs X scope ifs) := fun s H C cl fp => by
  match ifs, h with
  | [], _ => exact pts_nil
  | [c], _ => exact pts_one ⟨fun pins s' σ H' Q I h => h s H C cl fp pins s' I⟩
theorem jts_run (h : JTs X scope ifs s β) {as : List Addr} {B H : Hp} {σ : L2.St} (ok : Ok X.K as B H σ s) {Q : Bool → Hp → Prop} (q : ∀ B' H', Ext as B H as B' H' → Ok X.K as B' H' σ s → Q β H') : tBTs X scope ifs σ H Q := by
  match ifs, h with
  | [], h =>
    have h' : β = true := h
    subst h'
    exact q B H (Ext.refl ..) ok
  | [c], h => exact fun s0 H0 C cl fp => h s0 H0 C cl fp as B H σ ok Q q
  | _ :: _ :: _, h => exact h.elim
/-- a comprehension comes to xs -/
structure Lc (X : Cx) (tg iter elt : Expr) (ifs : List Expr) (scope : Scope) (own : List (Str × Nat)) (g : TG) (s : A) (xs : List D) (s' : A) : Prop where
  blk : BlkOk X.N X.env.scope scope own
  h1 : ifs.length ≤ 1
  hg : Blk X scope fun Y => PG Y tg g
  run : ∀ as B H σ, Ok X.K as B H σ s → ∀ Q : VK, (∀ p vs B' H', Ext as B H as B' H' → Ok X.K as B' H' σ s' → H p = none → B' p = none → H' p = some (.lst vs) → Reps X.K B' vs xs → Q (.ref p) H') →
    tLc (wI X tg iter) g (tBTs X scope ifs) (tBE X scope elt) (own.map (·.2)) σ H Q
theorem lc_mk {g : TG} {up : D → List Sl → List Sl → Prop} (hi : JI X tg iter s ds s1) (T : Tgt X.K g (own.map (·.2)) s1.sl.length up) (hblk : BlkOk X.N X.env.scope scope own) (hifs : ifs.length ≤ 1) (hg : Blk X scope fun Y => PG Y tg g)
    (acc : Nat → List D) (cs : Nat → List Cl) (h0 : acc 0 = []) (c0 : cs 0 = s1.cl) (hlen : ∀ i, i < ds.length → (acc i).length < sizeLine)
    (hs : ∀ i d, ds[i]? = some d → ∃ sl' β, up d (wipeL s1.sl (own.map (·.2))) sl' ∧ JTs X scope ifs ⟨sl', cs i⟩ β ∧ (β = true → ∃ y, (Blk X scope fun Y => JE Y WN elt ⟨sl', cs i⟩ (.ok y) ⟨sl', cs (i + 1)⟩) ∧ acc (i + 1) = acc i ++ [y]) ∧ (β = false → cs (i + 1) = cs i ∧ acc (i + 1) = acc i)) :
    Lc X tg iter elt ifs scope own g s (acc ds.length) ⟨s1.sl, cs ds.length⟩ where
  blk := hblk
  h1 := hifs
  hg := hg
  run := fun as B H σ ok Q q => hi as B H σ ok _ fun J B1 H1 x1 o1 it => fun Dl hD => by
    have hDas : Dl ∉ as := free_lt o1 hD
    have hDB : B1 Dl = none := o1.sm.free hD
    have c0' : (⟨s1.sl, cs 0⟩ : A) = s1 := by rw [c0]
    refine ⟨fun i m H' => m = ds.length - i ∧ i ≤ ds.length ∧ ∃ B', Ext as B1 H1 as B' H' ∧ Ok X.K as B' H' σ ⟨s1.sl, cs i⟩ ∧ B' Dl = none ∧ ∃ vs, H' Dl = some (.lst vs) ∧ Reps X.K B' vs (acc i),
      ⟨ds.length, by simp, Nat.zero_le _, B1, (Ext.refl as B1 H1).poke hD, by rw [c0']; exact o1.poke hDas hDB, hDB, [], upd_same, by rw [h0]; exact .nil⟩, ?_⟩
    rintro i m H' ⟨rfl, hle, B', x2, o2, hB', vs, hv, hr⟩
    have sm : Same B1 H' := x2.b.trans o2.sm
    by_cases hlt : i < ds.length
    · refine .inr ⟨it.go i H' hlt sm, fun H2 => ∃ B2, Ext as B1 H1 as B2 H2 ∧ Ok X.K as B2 H2 σ ⟨s1.sl, cs (i + 1)⟩ ∧ B2 Dl = none ∧ ∃ vs, H2 Dl = some (.lst vs) ∧ Reps X.K B2 vs (acc (i + 1)), fun H2 z => ⟨ds.length - (i + 1), by omega, rfl, hlt, z⟩, fun v H2 y => ?_⟩
      obtain ⟨rfl, d, hd', rd⟩ := it.yld i H' v H2 hlt sm y
      obtain ⟨sl', β, hu, ht, hy, hn⟩ := hs i d hd'
      have ow := o2.wiped (own.map (·.2)) fun v hv => T.lt v hv
      refine T.go ow (wipeL_length _ _) (rd.mono x2.b) hu _ fun σ' o3 hw => ⟨hw, ?_⟩
      refine jts_run ht o3 fun B3 H3 x3 o4 => ?_
      have hD3 : H2 Dl ≠ none := ne_none hv
      have hB3 : B3 Dl = none := x3.n Dl hB' hD3 hDas
      have back : ∀ {B4 H4 c4 σ4 l4}, Ext as B' H2 as B4 H4 → Ok X.K as B4 H4 σ4 ⟨l4, c4⟩ → Ok X.K as B4 H4 σ ⟨s1.sl, c4⟩ := fun {B4 H4 c4 σ4 l4} x o => ⟨o.sm, o.nd, o.ht, o.nb, o.cs, o2.ln, fun i y hy => (o2.sl i y hy).mono x.b ⟨[], by simp⟩⟩
      cases β with
      | true =>
        obtain ⟨y, he, hacc⟩ := hy rfl
        refine iteT fun s0 H0 C0 cl0 fp0 => ?_
        refine he s0 H0 C0 cl0 fp0 as B3 H3 σ' o4 _ fun u B4 H4 x4 o5 r5 => ?_
        have hB4 : B4 Dl = none := x4.n Dl hB3 (x3.t Dl hD3) hDas
        have hv4 : H4 Dl = some (.lst vs) := x4.k Dl _ hDas (x3.k Dl _ hDas hv)
        refine ⟨vs, hv4, by rw [hr.length]; exact hlen i hlt, B4, ((x2.trans x3).trans x4).poke hD, (back (x3.trans x4) o5).poke hDas hB4, hB4, vs ++ [u], upd_same, ?_⟩
        rw [hacc]
        exact (hr.mono (x3.trans x4).b).append (.cons r5 .nil)
      | false =>
        obtain ⟨e1, e2⟩ := hn rfl
        refine iteF ⟨B3, x2.trans x3, ?_, hB3, vs, x3.k Dl _ hDas hv, by rw [e2]; exact hr.mono x3.b⟩
        rw [e1]
        exact back x3 o4
    · have e : i = ds.length := by omega
      subst e
      exact .inl ⟨it.stop H' sm, q Dl vs B' H' (x1.trans x2) o2 (x1.back hD) hB' hv hr⟩
theorem jf_lc {g : TG} (C : Cok X W k) (L : Lc X tg iter elt ifs scope own g s xs s') (hs : ∀ x, foldedSetIterable iter X.env x = pure x := by intro _; rfl) : JF X (.ListComp elt [⟨tg, iter, ifs, 0⟩] scope pos) s xs s' :=
  jf_of (pe_lc (te := tBE X scope elt) C.calm C.nd pi_w L.blk L.hg (pts_w L.h1) (fun s0 H0 C0 cl0 fp0 => ⟨fun pins s' σ H' Q I h => h s0 H0 C0 cl0 fp0 pins s' I⟩) hs) L.run
/-- y = [..], a plain local on the same line -/
theorem js_setLc (i : Nat) {g : TG} {spos py : Pos} {cl : List Cl} (C : Cok X W k) (L : Lc X tg iter elt ifs scope own g s xs s') (hP : P.nx ⟨l, cl⟩) (hl : s'.sl.set i (.d (.lst xs)) = l := by (first | (dsimp only [List.set, List.length_cons, List.length_nil, List.cons_append, List.nil_append, Nat.reduceAdd]; done) | (dsimp only [List.set, List.length_cons, List.length_nil, List.cons_append, List.nil_append, Nat.reduceAdd]; exact rfl) | exact rfl)) (hcl : s'.cl = cl := by (first | (dsimp only [List.set, List.length_cons, List.length_nil, List.cons_append, List.nil_append, Nat.reduceAdd]; done) | (dsimp only [List.set, List.length_cons, List.length_nil, List.cons_append, List.nil_append, Nat.reduceAdd]; exact rfl) | exact rfl)) (hy : X.N[i]? = some x := by rfl) (hyl : X.env.scope.names.lookup x = some .local := by rfl) (hn : i < s'.sl.length := by exact of_decide_eq_true rfl)
    (hsw : swapsWith (.ListComp elt [⟨tg, iter, ifs, 0⟩] scope pos) (some (.Name x py)) spos.line X.env = pure true := by exact sw_true rfl rfl rfl (by decide +kernel)) (hs : ∀ x, foldedSetIterable iter X.env x = pure x := by intro _; rfl) : JS X W (.Assign [.Name x py] (.ListComp elt [⟨tg, iter, ifs, 0⟩] scope pos) spos) s P :=
  js_of (ps_setLc (te := tBE X scope elt) C.calm C.nd hy hyl hsw pi_w L.blk L.hg (pts_w L.h1) (fun s0 H0 C0 cl0 fp0 => ⟨fun pins s' σ H' Q I h => h s0 H0 C0 cl0 fp0 pins s' I⟩) hs) fun as B H σ ok Dn f => by
    have je : ∀ Q : VK, (∀ v B' H', Ext as B H as B' H' → Ok X.K as B' H' σ s' → Rep X.K B' v (.lst xs) → Q v H') → tLc (wI X tg iter) g (tBTs X scope ifs) (tBE X scope elt) (own.map (·.2)) σ H Q := fun Q q => L.run as B H σ ok _ fun p vs B' H' x o hp hB hH hr => by
      have sB : Same B' (upd B' p (.lst vs)) := same_upd' hB
      refine q _ (upd B' p (.lst vs)) H' ⟨x.b.trans sB, x.k, fun y e1 e2 e3 => ?_, x.l, x.t⟩ ⟨fun y u e => ?_, o.nd, o.ht, fun j y c h1 h2 h3 => ?_, ⟨o.cs.1, fun j y c h1 h2 => (o.cs.2 j y c h1 h2).mono sB ⟨[], by simp⟩ fun _ _ z => z⟩, o.ln, fun i y hy => (o.sl i y hy).mono sB ⟨[], by simp⟩⟩ (.lst upd_same (hr.mono sB))
      · rw [upd_ne (fun z => e2 (by rw [z]; exact hp))]; exact x.n y e1 e2 e3
      · by_cases e1 : y = p
        · rw [e1, upd_same] at e; rw [e1, hH]; exact e
        · rw [upd_ne e1] at e; exact o.sm _ _ e
      · rw [upd_ne (fun z => free_lt ok hp (by rw [← z]; exact List.mem_of_getElem? h1))]; exact o.nb j y c h1 h2 h3
    refine je _ fun v B' H' x o r => ?_
    have o2 := o.store (i := i) (o := some v) (x := .d (.lst xs)) hn ⟨v, rfl, r⟩
    rw [hl] at o2
    rw [← hcl] at hP
    exact f.nx as B' H' _ _ x o2 hP
theorem js_newLc (i : Nat) {g : TG} {spos py : Pos} (C : Cok X W k) {cl : List Cl} (L : Lc X tg iter elt ifs scope own g s xs s') (hP : P.nx ⟨l, cl⟩) (hl : s'.sl.set i (.c s'.cl.length) = l := by (first | (dsimp only [List.set, List.length_cons, List.length_nil, List.cons_append, List.nil_append, Nat.reduceAdd]; done) | (dsimp only [List.set, List.length_cons, List.length_nil, List.cons_append, List.nil_append, Nat.reduceAdd]; exact rfl) | exact rfl)) (hcl : s'.cl ++ [.lst xs] = cl := by (first | (dsimp only [List.set, List.length_cons, List.length_nil, List.cons_append, List.nil_append, Nat.reduceAdd]; done) | (dsimp only [List.set, List.length_cons, List.length_nil, List.cons_append, List.nil_append, Nat.reduceAdd]; exact rfl) | exact rfl)) (hy : X.N[i]? = some x := by rfl) (hyl : X.env.scope.names.lookup x = some .local := by rfl) (hn : i < s'.sl.length := by exact of_decide_eq_true rfl)
    (hsw : swapsWith (.ListComp elt [⟨tg, iter, ifs, 0⟩] scope pos) (some (.Name x py)) spos.line X.env = pure true := by exact sw_true rfl rfl rfl (by decide +kernel)) (hs : ∀ x, foldedSetIterable iter X.env x = pure x := by intro _; rfl) : JS X W (.Assign [.Name x py] (.ListComp elt [⟨tg, iter, ifs, 0⟩] scope pos) spos) s P :=
  js_of (ps_setLc (te := tBE X scope elt) C.calm C.nd hy hyl hsw pi_w L.blk L.hg (pts_w L.h1) (fun s0 H0 C0 cl0 fp0 => ⟨fun pins s' σ H' Q I h => h s0 H0 C0 cl0 fp0 pins s' I⟩) hs) fun as B H σ ok Dn f => L.run as B H σ ok _ fun p vs B' H' x o hp hB hH hr => by
    have o1 := o.adopt (free_lt ok hp) hB hH hr
    have hl1 := o.cs.1
    have o2 := o1.store (i := i) (o := some (.ref p)) (x := .c s'.cl.length) hn ⟨p, by rw [← hl1, List.getElem?_append_right (Nat.le_refl _)]; simp, rfl⟩
    dsimp only at o2
    rw [hl] at o2
    rw [← hcl] at hP
    exact f.nx _ B' H' _ _ (x.adopt hp) o2 hP

/-! ### defs on values -/
/-- called with ds it comes to r -/
def spD (K : PySem.W.Frag) (pre : List D → Res → Prop) : Sp := fun vs H Q E => ∃ (B : Hp) (ds : List D) (r : Res), Same B H ∧ Reps K B vs ds ∧ pre ds r ∧ match r with
  | .ok d => ∀ v B' H', Ext [] B H [] B' H' → Same B' H' → Rep K B' v d → Q v H'
  | .er c => ∀ B' H', Ext [] B H [] B' H' → Same B' H' → E (.ref c) none H'
/-- a def as callers have it -/
structure Fn (P : Program) (w : World) (K : PySem.W.Frag) (mg : Str → Option Value) (base : Heap) (x : Str) (n k : Nat) (pre : List D → Res → Prop) : Prop where
  ex : ∃ (f : Addr) (fd : FuncData) (ps : List Str), ps.length = n ∧ FnOk P w K mg base (L2.CX P w) k f fd ps (spD K pre) ∧ mg x = some (.ref f) ∧ PySem.W.keepIn K (.ref f) = true ∧ Binds K fd ps []
theorem je_callE {n j : Nat} {pre : List D → Res → Prop} (C : Cok X W k) (F : Fn X.prog X.w X.K X.mg X.base x n j pre) (hk : j ≤ k) (ha : JD X (e :: es) s ds s1) (hp : pre ds r) (hg : Gl X x := by rfl) (hdb : (x == ("__debug__" : Str)) = false := by decide) (he : starEach (e :: es) X.env = (false, eval e X.env) :: starEach es X.env := by rfl) (hpl : (backTo pos (starEach es X.env)).any (·.1) = false := by rfl) :
    JE X W (.Call (.Name x p) (e :: es) [] pos) s r s1 := fun as B H σ ok Q q => by
  obtain ⟨f, fd, ps, hn, hf, hm, hkp, hb⟩ := F.ex
  refine wE_of (pe_callS hf (C.hr.mono hk) hg hm hkp hb (fun σ => passAt C.tk σ) pa_w hdb he hpl) (ha as B H σ ok _ fun vs B1 H1 x1 o1 r1 => ?_)
  refine ⟨B1, ds, r, o1.sm, r1, hp, ?_⟩
  have up : ∀ {B' H'}, Ext [] B1 H1 [] B' H' → Same B' H' → Ext as B1 H1 as B' H' ∧ Ok X.K as B' H' σ s1 := fun {B' H'} y sm => by
    have sH : Same H1 H' := fun a o e => y.k a o (fun z => nomatch z) e
    exact ⟨⟨y.b, fun a o _ e => sH _ _ e, fun a h1 h2 _ => y.n a h1 h2 (fun z => nomatch z), ⟨[], by simp, fun _ z => nomatch z⟩, y.t⟩,
      ⟨sm, o1.nd, fun a ha => y.t a (o1.ht a ha), fun j a c h1 h2 h3 => y.n a (o1.nb j a c h1 h2 h3) (o1.ht a (List.mem_of_getElem? h1)) (fun z => nomatch z), ⟨o1.cs.1, fun j a c h1 h2 => (o1.cs.2 j a c h1 h2).mono y.b ⟨[], by simp⟩ fun _ u e => sH _ _ e⟩, o1.ln, fun i z hz => (o1.sl i z hz).mono y.b ⟨[], by simp⟩⟩⟩
  cases r with
  | ok d =>
    intro v B' H' y sm rv
    obtain ⟨x2, o2⟩ := up y sm
    exact q v B' H' (x1.trans x2) o2 rv
  | er c =>
    intro B' H' y sm
    obtain ⟨x2, o2⟩ := up y sm
    exact q B' H' (x1.trans x2) o2
theorem je_call {V : WX} {n j : Nat} {pre : List D → Res → Prop} (C : Cok X V k) (F : Fn X.prog X.w X.K X.mg X.base x n j pre) (hk : j ≤ k) (ha : JD X (e :: es) s ds s1) (hp : pre ds (.ok d)) (hg : Gl X x := by rfl) (hdb : (x == ("__debug__" : Str)) = false := by decide) (he : starEach (e :: es) X.env = (false, eval e X.env) :: starEach es X.env := by rfl) (hpl : (backTo pos (starEach es X.env)).any (·.1) = false := by rfl) :
    JE X W (.Call (.Name x p) (e :: es) [] pos) s (.ok d) s1 := by
  have h : JE X V (.Call (.Name x p) (e :: es) [] pos) s (.ok d) s1 := je_callE (W := V) C F hk ha hp hg hdb he hpl
  exact h
/-- what a body on values is to reach -/
def PoR (r : Res) : Po := { nx := fun _ => r = .ok .non, rt := fun d _ => r = .ok d, bk := fun _ => False, ct := fun _ => False, ex := fun c _ => r = .er c }
/-- the slots at a body's start -/
def sl0 (N : List Str) (ds : List D) : List Sl := ds.map .d ++ List.replicate (N.length - ds.length) .u
theorem ok_start {K : PySem.W.Frag} {N : List Str} {B H : Hp} {vs : List V} (sm : Same B H) (r : Reps K B vs ds) (hl : ds.length ≤ N.length) : Ok K [] B H (L2.start N vs) ⟨sl0 N ds, []⟩ where
  sm := sm
  nd := List.nodup_nil
  ht := fun _ z => nomatch z
  nb := fun j a c h => by simp at h
  cs := ⟨rfl, fun j a c h => by simp at h⟩
  ln := by
    have := r.length
    simp [L2.start, sl0]
    omega
  sl := fun i x hx => by
    have hl2 := r.length
    have hx' : (ds.map Sl.d ++ List.replicate (N.length - ds.length) .u)[i]? = some x := hx
    unfold L2.start
    by_cases hi : i < ds.length
    · rw [List.getElem?_append_left (by simpa using hi), List.getElem?_map] at hx'
      rw [List.getElem?_append_left (by simp; omega), List.getElem?_map]
      cases q : ds[i]? with
      | none => rw [q] at hx'; cases hx'
      | some d =>
        rw [q] at hx'
        cases hx'
        obtain ⟨v, h1, h2⟩ := r.get q
        rw [h1]
        exact ⟨v, rfl, h2⟩
    · rw [List.getElem?_append_right (by simp; omega), List.getElem?_replicate] at hx'
      split at hx'
      · cases hx'; exact True.intro
      · cases hx'
section
variable {Pg : Program} {w : World} {K : PySem.W.Frag} {mg : Str → Option Value} {base : Heap}
theorem fn_okX {qual : Str} {f : Addr} {fd : FuncData} {N ps : List Str} {pre : List D → Res → Prop} (F : Fun K x qual st f fd) (S : FnScope N ps (defScope st)) (hb : Binds K fd ps []) (hm : mg x = some (.ref f)) (hlen : ∀ ds r, pre ds r → ds.length = ps.length) (hN : ps.length ≤ N.length := by (show _ ≤ _; decide))
    (body : ∀ (cdv : Value) (A : Around) (outer : List Env) (s : Shared) (H : Hp) (E : XK), Cok (cxOf (L2.CX Pg w) Pg w K mg base N qual (defScope st) f cdv A outer s H E) (fun cls d _ H => E cls d H) k → ∀ ds r, pre ds r →
      JB (cxOf (L2.CX Pg w) Pg w K mg base N qual (defScope st) f cdv A outer s H E) (fun cls d _ H => E cls d H) (defBody st) ⟨sl0 N ds, []⟩ (PoR r)) : FnOk Pg w K mg base (L2.CX Pg w) (k + 1) f fd ps (spD K pre) :=
  F.okX S (fun vs H Q E h => by
      obtain ⟨B, ds, r, _, hr, hp, _⟩ := h
      rw [hr.length]
      exact hlen ds r hp) (fun cdv A outer s H vs Q E hr h => by
      obtain ⟨B, ds, r, sm, hrep, hp, q⟩ := h
      refine ⟨_, pss_w, ?_⟩
      have C : Cok (cxOf (L2.CX Pg w) Pg w K mg base N qual (defScope st) f cdv A outer s H E) (fun cls d _ H => E cls d H) k := ⟨hr, takes_of rfl rfl rfl rfl, rfl, passes_of rfl, S.nd⟩
      refine body cdv A outer s H E C ds r hp [] B H _ (ok_start sm hrep (by rw [hlen ds r hp]; exact hN)) _ ⟨?_, ?_, ?_, ?_, ?_⟩
      · intro as' B' H' σ' s' x o z
        have z' : r = .ok .non := z
        subst z'
        exact q .non B' H' ⟨x.b, x.k, x.n, ⟨[], rfl, fun _ z => nomatch z⟩, x.t⟩ o.sm .non
      · intro as' B' H' σ' s' v d x o rv z
        have z' : r = .ok d := z
        subst z'
        exact q v B' H' ⟨x.b, x.k, x.n, ⟨[], rfl, fun _ z => nomatch z⟩, x.t⟩ o.sm rv
      · intro as' B' H' σ' s' x o z; exact z.elim
      · intro as' B' H' σ' s' x o z; exact z.elim
      · intro as' B' H' σ' s' c x o z
        have z' : r = .er c := z
        subst z'
        exact q B' H' ⟨x.b, x.k, x.n, ⟨[], rfl, fun _ z => nomatch z⟩, x.t⟩ o.sm)
theorem fn_ok {qual : Str} {f : Addr} {fd : FuncData} {N ps : List Str} {pre : List D → Res → Prop} (F : Fun K x qual st f fd) (S : FnScope N ps (defScope st)) (hb : Binds K fd ps []) (hm : mg x = some (.ref f)) (hlen : ∀ ds r, pre ds r → ds.length = ps.length) (hN : ps.length ≤ N.length := by (show _ ≤ _; decide))
    (body : ∀ (cdv : Value) (A : Around) (outer : List Env) (s : Shared) (H : Hp) (E : XK), Cok (cxOf (L2.CX Pg w) Pg w K mg base N qual (defScope st) f cdv A outer s H E) (fun cls d _ H => E cls d H) k → ∀ ds r, pre ds r →
      JB (cxOf (L2.CX Pg w) Pg w K mg base N qual (defScope st) f cdv A outer s H E) (fun cls d _ H => E cls d H) (defBody st) ⟨sl0 N ds, []⟩ (PoR r)) : Fn Pg w K mg base x ps.length (k + 1) pre where
  ex := ⟨f, fd, ps, rfl, fn_okX F S hb hm hlen hN body, hm, F.kp, hb⟩
end
/-! ### raise -/
structure ExcOf (K : PySem.W.Frag) (mg : Str → Option Value) (x : Str) (c : Addr) : Prop where
  q : PySem.W.excIn K c [.type "ValueError", .type "Exception", .type "BaseException", .type "object"] "ValueError.__new__" = true
  g : mg x = some (.ref c)
  kp : PySem.W.keepIn K (.ref c) = true
  sb : PySem.W.subIn K (.ref c) (.type "BaseException") = some true
  ty : PySem.W.typeIn K (.ref c) = some (.type "type")
theorem js_raise {ce : Addr} {m : Str} {j : Nat} {p3 : Pos} (C : Cok X W k) (h : ExcOf X.K X.mg x ce) (hP : P.ex ce s) (hg : Gl X x := by rfl) (hdb : (x == ("__debug__" : Str)) = false := by decide) : JS X W (.Raise (some (.Call (.Name x p) [.Constant (.str m) j p2] [] p3)) none pos) s P :=
  js_of (ps_raise C.calm C.tk (pmk_own PySem.F.excBase_ValueError h.q h.g h.kp (raises_own h.sb h.ty) hg hdb)) fun as B H σ ok Dn f => f.ex as B H σ s ce (Ext.refl ..) ok hP
end
end DL
set_option Elab.async false
set_option linter.all false
set_option maxRecDepth 100000
set_option maxHeartbeats 4000000
set_option autoImplicit true
/-! DLg: short words -/
namespace DL
open PySem PySem.Spec PyProof.Rows L2
section
variable {X : Cx} {W : WX} {k : Nat} {e a b c tg iter elt : Expr} {es rest tgs ifs : List Expr} {st : Stmt} {sts body orelse : List Stmt} {s s' s1 s2 s3 : A} {P : Po} {d d' d1 d2 d3 da db dc : D} {r : Res} {ds : List D} {xs ys : List D} {pos p2 p apos pos' px py pz : Pos} {x y z : Str} {β β1 β2 : Bool} {op : CmpOp} {l : List Sl} {scope : Scope} {own : List (Str × Nat)} {R : A → Prop} {q : Nat}
theorem jg_n2 (i j : Nat) (C : Cok X W k) {cl : List Cl} (hR : R ⟨l, cl⟩) (hl : (s.sl.set i (.d d1)).set j (.d d2) = l := by (first | (dsimp only [List.set, List.length_cons, List.length_nil, List.cons_append, List.nil_append, Nat.reduceAdd]; done) | (dsimp only [List.set, List.length_cons, List.length_nil, List.cons_append, List.nil_append, Nat.reduceAdd]; exact rfl) | exact rfl)) (hcl : s.cl = cl := by (first | (dsimp only [List.set, List.length_cons, List.length_nil, List.cons_append, List.nil_append, Nat.reduceAdd]; done) | (dsimp only [List.set, List.length_cons, List.length_nil, List.cons_append, List.nil_append, Nat.reduceAdd]; exact rfl) | exact rfl)) (hi : X.N[i]? = some x := by rfl) (hj : X.N[j]? = some y := by rfl) (hx : Loc X.env.scope x := by first | exact .inl rfl | exact .inr rfl) (hy : Loc X.env.scope y := by first | exact .inl rfl | exact .inr rfl)
    (hn : i < s.sl.length := by exact of_decide_eq_true rfl) (hn2 : j < s.sl.length := by exact of_decide_eq_true rfl) (hf : X.fn x = true ∨ X.env.scope.names.lookup x = some .local := by first | exact .inl rfl | exact .inr rfl) (hf2 : X.fn y = true ∨ X.env.scope.names.lookup y = some .local := by first | exact .inl rfl | exact .inr rfl)
    (h1 : (assignEach [Expr.Name x px, Expr.Name y py] X.env).map (·.2) = assign (.Name x px) X.env :: (assignEach [Expr.Name y py] X.env).map (·.2) := by rfl) (h2 : (assignEach [Expr.Name y py] X.env).map (·.2) = assign (.Name y py) X.env :: (assignEach [] X.env).map (·.2) := by rfl)
    (h3 : (assignEach [Expr.Name x px, Expr.Name y py] X.env).length = 2 := by rfl) (h4 : (assignEach [Expr.Name x px, Expr.Name y py] X.env).findIdx? (·.1) = none := by rfl) : JG X (.Tuple [.Name x px, .Name y py] q pos) (.tup [d1, d2]) s R :=
  jg_tup C.calm (jgs_cons (jg_name i C.nd (jgs_cons (jg_name j C.nd (jgs_nil (by rw [← hl, ← hcl] at hR; exact hR)) rfl rfl hj hy (by rw [List.length_set]; exact hn2) hf2) h2) rfl rfl hi hx hn hf) h1) rfl h3 h4
theorem jg_n3 (i j m : Nat) (C : Cok X W k) {cl : List Cl} (hR : R ⟨l, cl⟩) (hl : ((s.sl.set i (.d d1)).set j (.d d2)).set m (.d d3) = l := by (first | (dsimp only [List.set, List.length_cons, List.length_nil, List.cons_append, List.nil_append, Nat.reduceAdd]; done) | (dsimp only [List.set, List.length_cons, List.length_nil, List.cons_append, List.nil_append, Nat.reduceAdd]; exact rfl) | exact rfl)) (hcl : s.cl = cl := by (first | (dsimp only [List.set, List.length_cons, List.length_nil, List.cons_append, List.nil_append, Nat.reduceAdd]; done) | (dsimp only [List.set, List.length_cons, List.length_nil, List.cons_append, List.nil_append, Nat.reduceAdd]; exact rfl) | exact rfl)) (hi : X.N[i]? = some x := by rfl) (hj : X.N[j]? = some y := by rfl) (hm : X.N[m]? = some z := by rfl) (hx : Loc X.env.scope x := by first | exact .inl rfl | exact .inr rfl) (hy : Loc X.env.scope y := by first | exact .inl rfl | exact .inr rfl) (hz : Loc X.env.scope z := by first | exact .inl rfl | exact .inr rfl)
    (hn : i < s.sl.length := by exact of_decide_eq_true rfl) (hn2 : j < s.sl.length := by exact of_decide_eq_true rfl) (hn3 : m < s.sl.length := by exact of_decide_eq_true rfl) (hf : X.fn x = true ∨ X.env.scope.names.lookup x = some .local := by first | exact .inl rfl | exact .inr rfl) (hf2 : X.fn y = true ∨ X.env.scope.names.lookup y = some .local := by first | exact .inl rfl | exact .inr rfl) (hf3 : X.fn z = true ∨ X.env.scope.names.lookup z = some .local := by first | exact .inl rfl | exact .inr rfl)
    (h0 : (assignEach [Expr.Name x px, Expr.Name y py, Expr.Name z pz] X.env).map (·.2) = assign (.Name x px) X.env :: (assignEach [Expr.Name y py, Expr.Name z pz] X.env).map (·.2) := by rfl)
    (h1 : (assignEach [Expr.Name y py, Expr.Name z pz] X.env).map (·.2) = assign (.Name y py) X.env :: (assignEach [Expr.Name z pz] X.env).map (·.2) := by rfl) (h2 : (assignEach [Expr.Name z pz] X.env).map (·.2) = assign (.Name z pz) X.env :: (assignEach [] X.env).map (·.2) := by rfl)
    (h3 : (assignEach [Expr.Name x px, Expr.Name y py, Expr.Name z pz] X.env).length = 3 := by rfl) (h4 : (assignEach [Expr.Name x px, Expr.Name y py, Expr.Name z pz] X.env).findIdx? (·.1) = none := by rfl) : JG X (.Tuple [.Name x px, .Name y py, .Name z pz] q pos) (.tup [d1, d2, d3]) s R :=
  jg_tup C.calm (jgs_cons (jg_name i C.nd (jgs_cons (jg_name j C.nd (jgs_cons (jg_name m C.nd (jgs_nil (by rw [← hl, ← hcl] at hR; exact hR)) rfl rfl hm hz (by rw [List.length_set, List.length_set]; exact hn3) hf3) h2) rfl rfl hj hy (by rw [List.length_set]; exact hn2) hf2) h1) rfl rfl hi hx hn hf) h0) rfl h3 h4
theorem jt_chainC {op' : CmpOp} (C : Cok X W k) (ha : JE X WN a s (.ok da) s) (hb : JE X WN b s (.ok db) s) (h : CmpD op da db β1) (hc : β1 = true → JE X WN c s (.ok dc) s ∧ CmpD op' db dc β2) (hm : lastMarks [op, op'] [b, c] = false := by with_unfolding_all rfl) :
    JT X (.Compare a [op, op'] [b, c] pos) s (β1 && β2) := by
  obtain ⟨r, ho, hr⟩ := cmp_rule C.u65 h
  cases β1 with
  | true =>
    obtain ⟨hc, h'⟩ := hc rfl
    obtain ⟨r', ho', hr'⟩ := cmp_rule C.u65 h'
    exact jt_of (pt_chain ho ho' pe_w pe_w pe_w hm) fun as B H σ ok Q q => Ok.two ha hb ok fun x y B2 H2 e2 o2 rx ry => hr B2 H2 x y _ o2.sm rx ry ⟨true, rfl, by
      rw [if_pos rfl]
      exact Ok.one hc o2 fun z B3 H3 e3 o3 rz => hr' B3 H3 y z _ o3.sm (ry.mono e3.b) rz ⟨_, rfl, q B3 H3 (e2.trans e3) o3⟩⟩
  | false =>
    exact jt_of (pt_chain ho op_nev pe_w pe_w pe_w hm) fun as B H σ ok Q q => Ok.two ha hb ok fun x y B2 H2 e2 o2 rx ry => hr B2 H2 x y _ o2.sm rx ry ⟨false, rfl, by
      rw [if_neg (by decide)]
      exact ⟨_, rfl, q B2 H2 e2 o2⟩⟩
theorem jt_chain {op' : CmpOp} (C : Cok X W k) (ha : JE X WN a s (.ok da) s) (hb : JE X WN b s (.ok db) s) (h : CmpD op da db β1) (hc : JE X WN c s (.ok dc) s) (h' : CmpD op' db dc β2) (hm : lastMarks [op, op'] [b, c] = false := by with_unfolding_all rfl) :
    JT X (.Compare a [op, op'] [b, c] pos) s (β1 && β2) := jt_chainC C ha hb h (fun _ => ⟨hc, h'⟩) hm
theorem je_chain' {op' : CmpOp} {V : WX} (C : Cok X V k) (ha : JE X W a s (.ok da) s) (hb : JE X W b s (.ok db) s) (h : CmpD op da db β1) (hc : JE X W c s (.ok dc) s) (h' : CmpD op' db dc β2) (hm : lastMarks [op, op'] [b, c] = false := by with_unfolding_all rfl) :
    JE X W (.Compare a [op, op'] [b, c] pos) s (.ok (.bl (β1 && β2))) s := je_chain C ha hb h (fun _ => ⟨hc, h'⟩) hm
theorem rng_get {n i : Nat} {f : Nat → D} (h : ((List.range n).map f)[i]? = some d) : i < n ∧ d = f i := by
  rw [List.getElem?_map] at h
  cases q : (List.range n)[i]? with
  | none => rw [q] at h; cases h
  | some j =>
    rw [q] at h
    obtain ⟨h1, h2⟩ := List.getElem?_eq_some_iff.mp q
    rw [List.getElem_range] at h2
    rw [List.length_range] at h1
    subst h2
    exact ⟨h1, (Option.some.inj h).symm⟩
theorem atI_map {α β : Type} (f : α → β) {l : List α} {i : Nat} {x : α} (h : l[i]? = some x) : L2.atI (l.map f) (i : Int) = some (f x) := atI_nat (by rw [List.getElem?_map, h]; rfl)
theorem Cok.blk (C : Cok X W k) : Blk X scope fun Y => Cok Y WN k := fun s0 H0 C0 cl0 fp0 => ⟨C.hr, takes0, C.calm, PassesOwn.never, C.nd⟩
theorem je_w {W' : WX} (h : JE X W e s (.ok d) s') : JE X W' e s (.ok d) s' := h
theorem je_allM {α : Type} {lst : List α} {pr : α → Bool} {V : WX} (C : Cok X V k) (hm : X.mg "all" = none) (ha : JE X W a s (.ok (.lst (lst.map fun z => .bl (pr z)))) s1) (hg : Gl X "all" := by rfl)
    (he : starEach (a :: []) X.env = (false, eval a X.env) :: starEach [] X.env := by rfl) (hpl : (backTo pos (starEach [] X.env)).any (·.1) = false := by rfl) : JE X W (.Call (.Name "all" p) [a] [] pos) s (.ok (.bl (lst.all pr))) s1 := by
  have e : (lst.map pr).all id = lst.all pr := by rw [List.all_map]; rfl
  rw [← e]
  refine je_all (bs := lst.map pr) C hm ?_ hg he hpl
  rw [List.map_map]
  exact ha
theorem je_anyM {α : Type} {lst : List α} {pr : α → Bool} {V : WX} (C : Cok X V k) (hm : X.mg "any" = none) (ha : JE X W a s (.ok (.lst (lst.map fun z => .bl (pr z)))) s1) (hg : Gl X "any" := by rfl)
    (he : starEach (a :: []) X.env = (false, eval a X.env) :: starEach [] X.env := by rfl) (hpl : (backTo pos (starEach [] X.env)).any (·.1) = false := by rfl) : JE X W (.Call (.Name "any" p) [a] [] pos) s (.ok (.bl (lst.any pr))) s1 := by
  have e : (lst.map pr).any id = lst.any pr := by rw [List.any_map]; rfl
  rw [← e]
  refine je_any (bs := lst.map pr) C hm ?_ hg he hpl
  rw [List.map_map]
  exact ha
/-- [elt for x in l], x in slot i -/
theorem lc_map {α : Type} (i : Nat) (lst : List α) {enc f : α → D} (C : Cok X W k) (hi : JI X (.Name x px) iter s (lst.map enc) s1)
    (hs : ∀ a ∈ lst, Blk X scope fun Y => Cok Y WN k → JE Y WN elt ⟨s1.sl.set i (.d (enc a)), s1.cl⟩ (.ok (f a)) ⟨s1.sl.set i (.d (enc a)), s1.cl⟩) (hlen : lst.length ≤ sizeLine := by assumption)
    (hblk : blkC X.N X.env.scope scope [(x, i)] = true := by kernel_rfl) (hn : i < s1.sl.length := by exact of_decide_eq_true rfl) (hNi : X.N[i]? = some x := by rfl) (hloc : Blk X scope fun Y => Loc Y.env.scope x := by first | exact fun _ _ _ _ _ => Or.inl rfl | exact fun _ _ _ _ _ => Or.inr rfl) (hfn : Blk X scope fun Y => Y.fn x = true ∨ Y.env.scope.names.lookup x = some .local := by first | exact fun _ _ _ _ _ => .inr rfl | exact fun _ _ _ _ _ => .inl rfl) :
    Lc X (.Name x px) iter elt [] scope [(x, i)] (gName i) s (lst.map f) s1 := by
  have h := lc_mk (elt := elt) (ifs := []) hi (tgt_name (K := X.K) hn) (blkOk_by hblk) (Nat.zero_le _) (fun s0 H0 C0 cl0 fp0 => pg_name C.nd hNi (hloc s0 H0 C0 cl0 fp0) (hfn s0 H0 C0 cl0 fp0)) (fun j => (lst.take j).map f) (fun _ => s1.cl) rfl rfl (fun j hj => by
    rw [List.length_map, List.length_take]
    rw [List.length_map] at hj
    omega) (fun j d hd => by
    rw [List.getElem?_map] at hd
    cases q : lst[j]? with
    | none => rw [q] at hd; cases hd
    | some a =>
      rw [q] at hd
      have hd' : enc a = d := Option.some.inj hd
      subst hd'
      refine ⟨s1.sl.set i (.d (enc a)), true, ?_, rfl, fun _ => ⟨f a, fun s0 H0 C0 cl0 fp0 => hs a (List.mem_of_getElem? q) s0 H0 C0 cl0 fp0 (C.blk s0 H0 C0 cl0 fp0), ?_⟩, fun z => nomatch z⟩
      · show (s1.sl.set i .u).set i (.d (enc a)) = _
        rw [List.set_set]
      · rw [List.take_add_one, q, List.map_append]
        rfl)
  rw [List.length_map, List.take_length] at h
  exact h
theorem lc_as {g : TG} (h : Lc X tg iter elt ifs scope own g s xs s') (e' : xs = ys) : Lc X tg iter elt ifs scope own g s ys s' := e' ▸ h
/-- [elt for x in l if c] -/
theorem lc_filter {α : Type} (i : Nat) (lst : List α) {enc f : α → D} {pr : α → Bool} (C : Cok X W k) (hi : JI X (.Name x px) iter s (lst.map enc) s1)
    (ht : ∀ a ∈ lst, Blk X scope fun Y => Cok Y WN k → JT Y c ⟨s1.sl.set i (.d (enc a)), s1.cl⟩ (pr a))
    (hs : ∀ a ∈ lst, pr a = true → Blk X scope fun Y => Cok Y WN k → JE Y WN elt ⟨s1.sl.set i (.d (enc a)), s1.cl⟩ (.ok (f a)) ⟨s1.sl.set i (.d (enc a)), s1.cl⟩) (hlen : lst.length ≤ sizeLine := by assumption)
    (hblk : blkC X.N X.env.scope scope [(x, i)] = true := by kernel_rfl) (hn : i < s1.sl.length := by exact of_decide_eq_true rfl) (hNi : X.N[i]? = some x := by rfl) (hloc : Blk X scope fun Y => Loc Y.env.scope x := by first | exact fun _ _ _ _ _ => Or.inl rfl | exact fun _ _ _ _ _ => Or.inr rfl) (hfn : Blk X scope fun Y => Y.fn x = true ∨ Y.env.scope.names.lookup x = some .local := by first | exact fun _ _ _ _ _ => .inr rfl | exact fun _ _ _ _ _ => .inl rfl) :
    Lc X (.Name x px) iter elt [c] scope [(x, i)] (gName i) s ((lst.filter pr).map f) s1 := by
  have h := lc_mk (elt := elt) (ifs := [c]) hi (tgt_name (K := X.K) hn) (blkOk_by hblk) (Nat.le_refl _) (fun s0 H0 C0 cl0 fp0 => pg_name C.nd hNi (hloc s0 H0 C0 cl0 fp0) (hfn s0 H0 C0 cl0 fp0)) (fun j => ((lst.take j).filter pr).map f) (fun _ => s1.cl) rfl rfl (fun j hj => by
    have h1 := List.length_filter_le pr (lst.take j)
    rw [List.length_take] at h1
    rw [List.length_map]
    rw [List.length_map] at hj
    omega) (fun j d hd => by
    rw [List.getElem?_map] at hd
    cases q : lst[j]? with
    | none => rw [q] at hd; cases hd
    | some a =>
      rw [q] at hd
      have hd' : enc a = d := Option.some.inj hd
      subst hd'
      have hm := List.mem_of_getElem? q
      refine ⟨s1.sl.set i (.d (enc a)), pr a, ?_, fun s0 H0 C0 cl0 fp0 => ht a hm s0 H0 C0 cl0 fp0 (C.blk s0 H0 C0 cl0 fp0), fun hp => ⟨f a, fun s0 H0 C0 cl0 fp0 => hs a hm hp s0 H0 C0 cl0 fp0 (C.blk s0 H0 C0 cl0 fp0), ?_⟩, fun hp => ⟨rfl, ?_⟩⟩
      · show (s1.sl.set i .u).set i (.d (enc a)) = _
        rw [List.set_set]
      · rw [List.take_add_one, q, List.filter_append, List.map_append]
        simp [hp]
      · rw [List.take_add_one, q, List.filter_append, List.map_append]
        simp [hp])
  rw [List.length_map, List.take_length] at h
  exact h
end
end DL
set_option Elab.async false
set_option linter.all false
set_option maxRecDepth 100000
set_option maxHeartbeats 4000000
set_option autoImplicit true
/-! DLh: try with the error kept, isinstance, further built-ins -/
namespace DL
open PySem PySem.Spec PyProof.Rows L2
section
variable {X : Cx} {σ : L2.St} {H : Hp} {s : Shared} {pins : List (Addr × Obj)}
/-- an object that stood untracked, made since the entry, is tracked -/
theorem Inv.take {a : Addr} {o : HO} {oe : Obj} {vs : Array Value} (I : Inv X pins σ H s) (hex : X.ex = []) (e : s.heap.get? a = some oe) (hd : oe.data = .fields vs) (hn : H a = none) (n0 : X.s_0.heap.get? a = none) (nL : a ≠ X.env.locals) (np : ∀ p ∈ X.pn ++ pins, p.1 ≠ a) (new : ObjOk X.prog X.w (upd H a o) s.heap a o) : Inv X pins σ (upd H a o) s := by
  have neN : ∀ {b : Addr} {u : HO}, H b = some u → b ≠ a := fun {b u} q z => by rw [z, hn] at q; cases q
  have ne0 : ∀ {b : Addr} {u : Obj}, X.s_0.heap.get? b = some u → b ≠ a := fun {b u} q z => by rw [z, n0] at q; cases q
  refine ⟨I.ok, I.os, I.bare, ⟨I.base.keep, I.base.slot, fun b u q n hx => by rw [upd_ne (ne0 q)]; exact I.base.free b u q n hx, I.base.there, fun b xs q => ?_, fun b u xs q => ?_, fun b ps q => ?_⟩, I.loc, I.cell, by rw [upd_ne (Ne.symm nL)]; exact I.free, fun x c q => ?_, fun p hp => ?_, I.hok.laidN (fun _ _ z => z) hn new, I.len⟩
  · have z := I.base.tups b xs q
    rw [upd_ne (neN z)]; exact z
  · have z := I.base.frzs b u xs q
    rw [upd_ne (neN z)]; exact z
  · obtain ⟨m, z⟩ := I.base.tbls b ps q
    exact ⟨m, by rw [upd_ne (neN z)]; exact z⟩
  · rw [upd_ne (fun z => ?_)]
    · exact I.freeC x c q
    · obtain ⟨v, oc, ho, hdc⟩ := I.cell x c q
      rw [z, e] at ho
      cases ho
      rw [hd] at hdc
      cases hdc
  · obtain ⟨h1, h2, h3⟩ := I.pin p hp
    exact ⟨h1, by rw [upd_ne (np p hp)]; exact h2, h3⟩
theorem exH_ok {P : Program} {w : World} {H : Hp} {h : Heap} {a c : Addr} {oe : Obj} {vs : Array Value} (e : h.get? a = some oe) (z : Zc (.ref c) none oe) (d : oe.data = .fields vs) : ObjOk P w H h a (ExH c a) :=
  ⟨⟨oe, vs, e, z, d⟩, ⟨oe, e⟩, fun _ _ ⟨o, v, q, r⟩ k => ⟨o, v, k o q, r⟩⟩
/-- the wish of a try whose clause keeps the error in slot j -/
def wKeep (K : PySem.W.Frag) (cv : Value) (i j : Nat) (D : Ends) : WX := fun cls d σ H => ∃ c : Addr, cls = .ref c ∧ d = none ∧ PySem.W.exmOne K (.ref c) cv = some true ∧ ∀ a, H a = none → D.nx (((σ.set i (some (.ref a))).set j (some (.ref a))).set i none) (upd H a (ExH c a))
variable {x n : Str} {cv : Value} {i j : Nat} {body : List Stmt} {st : Stmt} {np pos pos' : Pos} {tb : WX → TS}
theorem ps_tryKeep (hs : X.stack = X.env :: X.outer) (hf : X.env.frame = some X.env.locals) (hex : X.ex = []) (hN : X.N.Nodup) (hi : X.N[i]? = some n) (hln : X.env.kindOf n = some .local) (hc : Names X x cv)
    (hb : ∀ (W : WX) (pn : List (Addr × Obj)) (xe : Value → Shared → Prop), Takes (X.tr pn xe) W → PassesOwn (model X.prog X.w) X.A X.env xe →
      PSs (X.tr pn xe) body (tb W))
    (hsu : ∀ (a : Addr) (oe : Obj) (pn : List (Addr × Obj)), PSs (X.suite a ((a, oe) :: pn)) [st] (tAsg (tVar i) (gName j))) :
    PS X (.Try body [.ExceptHandler (some (.Name x np)) (some n) [st] pos'] [] [] pos) (fun D σ H => tb (wKeep X.K cv i j D) D σ H) := by
  refine ⟨fun pins s σ H D I h => ?_⟩
  have ok := I.ok
  have frS : X.A.frames = some (X.env :: X.outer) := by rw [ok.frames, hs]
  have locN : Loc X.env.scope n := .inl hln
  refine wpAny_Try_except ?_
  refine wpAny_mono ((hb (wKeep X.K cv i j D) (X.pn ++ pins) (fun e s₁ => wpAny (model X.prog X.w) X.A (noteFrame e X.env) (fun _ s₂ => wpAny (model X.prog X.w) X.A (setFlight e none) (fun _ s₃ =>
    wpAny (model X.prog X.w) X.A (handleBy e X.env [.ExceptHandler (some (.Name x np)) (some n) [st] pos']) (SP X pins D) X.xe s₃) X.xe s₂) X.xe s₁) (fun u t xx => ?_) PassesOwn.looking).run [] s σ H D (I.toTry _) h) (fun f s1 done => ?_) (fun e s1 hx => hx)
  · obtain ⟨a, B, t0, pins', τ, G, cls, d, rfl, I', nb, up, sky, na, os, ag, c, rfl, rfl, hb1, hgo⟩ := xx
    have J : Inv X pins τ G t0 := I'.ofTry ok
    have skyX : Sky B (X.env :: X.outer) a (Zc (.ref c) none) X.env.locals t.heap := by rw [← hs]; exact sky
    show wpAny _ _ (noteFrame (.ref a) X.env) _ _ _
    refine Sky.land Zc.steady frS hf skyX fun m3 fly3 ext3 => ?_
    have I3 : Inv X pins τ G { t with heap := m3 } := J.landed nb fly3.1 (up.trans ext3) os ag
    obtain ⟨ob3, ws3, at3, z3, d3⟩ := fly3.there
    have off : ∀ {h : Heap} {o : Obj} {vs : Array Value}, h.FunFrames B (X.env :: X.outer) → h.get? a = some o → o.data = .fields vs → a ∉ frs (X.env :: X.outer) := fun {h o vs} ff e dd gm => by
      obtain ⟨_, oo, ee, nof⟩ := ff.mem gm
      rw [e] at ee; cases ee
      exact nof _ dd
    have away := off fly3.2.2.1 at3 d3
    have neL : a ≠ X.env.locals := fun z => away (List.mem_filterMap.mpr ⟨X.env, List.mem_cons_self, by rw [hf, z]⟩)
    have noF : a ∉ X.fs := fun gm => by
      obtain ⟨e, hx, w⟩ := List.mem_filterMap.mp gm
      exact away (List.mem_filterMap.mpr ⟨e, List.mem_cons_of_mem _ hx, w⟩)
    have bare0 : t0.heap.get? a = none := by
      cases w : t0.heap.get? a with
      | none => rfl
      | some o =>
        have z := nb a o w (by
          have e : frs X.stack = frs (X.env :: X.outer) := by rw [hs]
          intro gm
          exact away (by rw [← e]; exact gm))
        rw [fly3.2.1] at z
        cases z
    have bare1 : X.s_0.heap.get? a = none := by
      cases w : X.s_0.heap.get? a with
      | none => rfl
      | some o =>
        obtain ⟨oo, z⟩ := J.base.there a o w (by rw [hex]; exact fun z => nomatch z)
        rw [bare0] at z
        cases z
    have pinA : ∀ p ∈ X.pn ++ pins, p.1 ≠ a := fun p hp z => by
      have w := (J.pin p hp).1
      rw [z, bare0] at w
      cases w
    have T3 := I3.suite at3 d3 na neL noF
    refine wpAny_handleBy_cons (codeAny_handlers_test ?_) (by intro w; cases w)
    have tyA : PySem.W.Looks (model X.prog X.w) m3 (typeOf (.ref a)) (.ref c) := fun A Q E s k w => wpAny_typeOf_ref (k _ _ at3) (by rw [z3.1]; exact w)
    have hit := PySem.W.exm_one (M := model X.prog X.w) (I3.kIn) tyA hb1
    have test : ∀ {Q : Value → Shared → Prop} {E : Value → Shared → Prop}, Q cv { t with heap := m3 } → wpAny (model X.prog X.w) (X.A.mark (some (.ref a))) (eval (.Name x np) X.env) Q E { t with heap := m3 } := fun {Q E} w => by
      obtain ⟨gx, ndb, gm | ⟨gm, bv, nnm⟩⟩ := hc
      · exact ld_glob (X := X.suite a ((a, ob3) :: (X.pn ++ pins))) T3 gx gm w ndb
      · exact ld_blt (X := X.suite a ((a, ob3) :: (X.pn ++ pins))) T3 gx gm bv w nnm ndb
    refine test (hit.here (codeAny_handlers_suite_as ?_))
    refine HandSPX.lands_againZ fly3 fun m4 fly4 ext4 => ?_
    have I4 : Inv X pins τ G { t with heap := m4 } := J.landed nb fly4.1 ((up.trans ext3).trans ext4) os ag
    obtain ⟨ob4, ws4, at4, z4, d4⟩ := fly4.there
    have T4 := I4.suite at4 d4 na neL noF
    refine store_ok (X := X.suite a ((a, ob4) :: (X.pn ++ pins))) (v := .ref a) T4 hN hi locN rfl (fun s5 S5 => ?_) (.inr hln)
    have hlen : i < τ.length := by rw [J.len]; exact (List.getElem?_eq_some_iff.mp hi).1
    refine wpAny_mono ((hsu a ob4 (X.pn ++ pins)).run [] s5 _ G { nx := fun σ6 H6 => σ6 = (τ.set i (some (.ref a))).set j (some (.ref a)) ∧ H6 = G, rt := fun _ _ => False, bk := fun _ _ => False, ct := fun _ _ => False } S5 ⟨.ref a, List.getElem?_set_self hlen, rfl, rfl⟩) (fun f s6 done => ?_) (fun _ _ z => False.elim z)
    cases f with
    | next =>
      obtain ⟨σ6, H6, S6, rfl, rfl⟩ := done
      have J6 : Inv X pins _ H6 s6 := S6.unsuite ok
      obtain ⟨he6, hn6, nL6, _⟩ := S6.pin (a, ob4) (by simp)
      have J7 : Inv X pins _ (upd H6 a (ExH c a)) s6 := Inv.take J6 hex he6 d4 na bare1 neL pinA (exH_ok he6 z4 d4)
      exact gone_ok J7 hN hi hln fun s7 J8 => ⟨_, _, J8, hgo a na⟩
    | brk => obtain ⟨_, _, _, z⟩ := done; exact z.elim
    | cont => obtain ⟨_, _, _, z⟩ := done; exact z.elim
    | ret u => obtain ⟨_, _, _, _, _, z⟩ := done; exact z.elim
  · cases f with
    | next =>
      obtain ⟨τ, G, I', w⟩ := done
      exact wpAny_execs_nil ⟨τ, G, I'.ofTry ok, w⟩
    | brk =>
      obtain ⟨τ, G, I', w⟩ := done
      exact ⟨τ, G, I'.ofTry ok, w⟩
    | cont =>
      obtain ⟨τ, G, I', w⟩ := done
      exact ⟨τ, G, I'.ofTry ok, w⟩
    | ret u =>
      obtain ⟨v, τ, G, I', r, w⟩ := done
      exact ⟨v, τ, G, I'.ofTry ok, r, w⟩
end
section
variable {X : Cx} {W : WX} {k : Nat} {e a b c tg iter elt : Expr} {es rest tgs ifs : List Expr} {st : Stmt} {sts body orelse : List Stmt} {s s' s1 s2 s3 : A} {P : Po} {d d' d1 d2 d3 da db dc : D} {r : Res} {ds : List D} {xs ys : List D} {pos p2 p apos pos' px py pz np : Pos} {x y z n : Str} {β β1 β2 : Bool} {op : CmpOp} {l : List Sl} {scope : Scope} {own : List (Str × Nat)} {R : A → Prop} {q : Nat}
theorem Ok.store' {K : PySem.W.Frag} {as : List Addr} {B H : Hp} {σ : L2.St} {s : A} {i : Nat} {o : Option V} {x : Sl} (h : Ok K as B H σ s) (hx : SlOk K B as o x) : Ok K as B H (σ.set i o) ⟨s.sl.set i x, s.cl⟩ := by
  by_cases hi : i < s.sl.length
  · exact h.store hi hx
  · rw [List.set_eq_of_length_le (by rw [h.ln]; omega), List.set_eq_of_length_le (by omega)]
    exact h
def tTry (X : Cx) (body : List Stmt) (W' : WX) : TS := fun D σ H => ∀ (pn : List (Addr × Obj)) (xe : Value → Shared → Prop), Takes (X.tr pn xe) W' → PassesOwn (model X.prog X.w) X.A X.env xe → wB (X.tr pn xe) body D σ H
/-- try: body / except x as n: kept = n; i n's slot, j kept's -/
theorem js_try (i j : Nat) {cv : Value} (C : Cok X W k) (hc : Names X x cv)
    (hb : ∀ (W' : WX) (pn : List (Addr × Obj)) (xe : Value → Shared → Prop), Cok (X.tr pn xe) W' k → JB (X.tr pn xe) W' body s { P with ex := fun c s' => PySem.W.exmOne X.K (.ref c) cv = some true ∧ P.nx ⟨((s'.sl.set i .u).set j (.d (.exc c))).set i .u, s'.cl⟩ })
    (hs : X.stack = X.env :: X.outer := by rfl) (hf : X.env.frame = some X.env.locals := by rfl) (hex : X.ex = [] := by rfl) (hi : X.N[i]? = some n := by rfl) (hj : X.N[j]? = some y := by rfl) (hln : X.env.kindOf n = some .local := by rfl) (hlj : X.env.scope.names.lookup y = some .local := by rfl)
    (hd1 : (n == ("__debug__" : Str)) = false := by decide) (hd2 : (n == ("__classdict__" : Str)) = false := by decide)
    (hsw : swapsWith (.Name n px) (some (.Name y py)) p2.line X.env = pure false := by rfl) :
    JS X W (.Try body [.ExceptHandler (some (.Name x np)) (some n) [.Assign [.Name y py] (.Name n px) p2] pos'] [] [] pos) s P :=
  js_of (ps_tryKeep (tb := tTry X body) hs hf hex C.nd hi hln hc (fun W' pn xe tk hp => ⟨fun pins s σ H D I h => h pn xe tk hp pins s I⟩) (fun a oe pn => pss_one (ps_set C.nd hj (.inl hlj) (pe_var hi (.inl hln) hd1 hd2) hsw (.inr hlj)))) fun as B H σ ok Dn f => fun pn xe tk hp => by
    refine hb _ pn xe ⟨C.hr, tk, C.calm, hp, C.nd⟩ as B H σ ok Dn ⟨f.nx, f.rt, f.bk, f.ct, fun as' B' H' σ' s' c x o z => ⟨c, rfl, rfl, z.1, fun a ha => ?_⟩⟩
    obtain ⟨o1, x1⟩ := o.new (o := ExH c a) ha
    have o2 := o1.store' (i := i) (o := some (.ref a)) (x := .u) True.intro
    have o3 := o2.store' (i := j) (o := some (.ref a)) (x := .d (.exc c)) ⟨.ref a, rfl, .exc upd_same⟩
    have o4 := o3.store' (i := i) (o := none) (x := .u) True.intro
    exact f.nx _ _ _ _ _ (x.trans x1) o4 z.2

/-! ### isinstance -/
inductive IsK (K : PySem.W.Frag) : D → Value → Bool → Prop
  | non {u : Value} {b : Bool} (h : PySem.W.kitOne K (.type "NoneType") u = some b) : IsK K .non u b
  | int {i : Int} {u : Value} {b : Bool} (h : PySem.W.kitOne K (.type "int") u = some b) : IsK K (.int i) u b
  | bl {i : Bool} {u : Value} {b : Bool} (h : PySem.W.kitOne K (.type "bool") u = some b) : IsK K (.bl i) u b
  | str {i : Str} {u : Value} {b : Bool} (h : PySem.W.kitOne K (.type "str") u = some b) : IsK K (.str i) u b
  | lst {xs : List D} {u : Value} {b : Bool} (h : PySem.W.kitOne K (.type "list") u = some b) : IsK K (.lst xs) u b
  | exc {c : Addr} {u : Value} {b : Bool} (hE : ExcC K c) (h : PySem.W.kitOne K (.ref c) u = some b) : IsK K (.exc c) u b
def rIsX (K : PySem.W.Frag) : List V → Hp → VK → Prop := fun xs H Q => ∃ (a D : Addr) (c : V) (cv : Value) (b : Bool), xs = [.ref a, c] ∧ H a = some (ExH D a) ∧ ExcC K D ∧ ClsV c cv ∧ PySem.W.kitOne K (.ref D) cv = some b ∧ Q (.bl b) H
theorem call_isX : CallR X (.builtin "isinstance") (rIsX X.K) := by
  intro ps t τ G zs us R I rv ⟨a, D, c, cv, b, ez, ha, C, kc, e, q⟩
  subst ez
  obtain ⟨x1, x2, rfl, y1, y2⟩ := vals2 rv
  have e1 : x1 = .ref a := y1
  have e2 := kc.eq y2
  subst e1 e2
  obtain ⟨⟨oe, vs, hget, hz, hd⟩, _, _⟩ := I.hok a _ ha
  have at_ : PySem.W.InstAt t.heap a oe D none := by
    cases oe
    obtain ⟨h1, h2⟩ := hz
    dsimp only at h1 h2 hd
    subst h1 h2 hd
    exact ⟨hget, rfl, rfl, True.intro⟩
  exact PySem.W.kia_one (PySem.W.handS_kitx_exc C.hg C.hk C.hs C.hd C.ha C.hn C.ht C.hm) I.kIn at_ e (fun z => nomatch z)
    fun tk => ⟨.bl b, G, I.kept (t' := tk) fun _ _ z => z, rfl, q⟩
theorem je_isinst {cv : V} {u : Value} (hm : X.mg "isinstance" = none) (ha : JE X W a s (.ok d) s) (hc : PE X b (tC cv)) (kc : ClsV cv u) (h : IsK X.K d u β) (hg : Gl X "isinstance" := by rfl)
    (h1 : starEach (b :: []) X.env = (false, eval b X.env) :: starEach [] X.env := by rfl) (he : starEach (a :: [b]) X.env = (false, eval a X.env) :: starEach [b] X.env := by rfl) (hpl : (backTo pos (starEach [b] X.env)).any (·.1) = false := by rfl) :
    JE X W (.Call (.Name "isinstance" p) [a, b] [] pos) s (.ok (.bl β)) s :=
  je_of (pe_callB (call_isi.or call_isX) hg hm (by decide +kernel) (pa_cons pe_w (pa_cons hc pa_nil h1) he) (by decide) (by decide) he hpl) fun as B H σ ok Q q => Ok.one ha ok fun x B1 H1 e1 o1 r1 => by
    cases h with
    | non h => cases r1; exact .inl ⟨_, _, _, _, _, rfl, kc, .base .non, h, q _ B1 H1 e1 o1 (.bl _)⟩
    | int h => cases r1; exact .inl ⟨_, _, _, _, _, rfl, kc, .base (.int _), h, q _ B1 H1 e1 o1 (.bl _)⟩
    | bl h => cases r1; exact .inl ⟨_, _, _, _, _, rfl, kc, .base (.bl _), h, q _ B1 H1 e1 o1 (.bl _)⟩
    | str h => cases r1; exact .inl ⟨_, _, _, _, _, rfl, kc, .base (.str _), h, q _ B1 H1 e1 o1 (.bl _)⟩
    | lst h =>
      cases r1 with
      | lst h1 h2 => exact .inl ⟨_, _, _, _, _, rfl, kc, .base (.lst (o1.sm _ _ h1)), h, q _ B1 H1 e1 o1 (.bl _)⟩
    | exc hE h =>
      cases r1 with
      | exc h1 => exact .inr ⟨_, _, _, _, _, rfl, o1.sm _ _ h1, hE, kc, h, q _ B1 H1 e1 o1 (.bl _)⟩

/-! ### further built-ins -/
theorem ji_rev {m : Nat} (hm : X.mg "reversed" = none) (hr : X.mg "range" = none) (h : JE X WN a s (.ok (.int (m : Nat))) s1) (hn : m < 2 ^ 62) (hg : Gl X "reversed" := by rfl) (hg2 : Gl X "range" := by rfl) (h1 : starEach [a] X.env = (false, eval a X.env) :: starEach [] X.env := by rfl)
    (hs : starEach [Expr.Call (.Name "range" p) [a] [] pos] X.env = (false, eval (.Call (.Name "range" p) [a] [] pos) X.env) :: starEach [] X.env := by rfl) : JI X tg (.Call (.Name "reversed" p2) [.Call (.Name "range" p) [a] [] pos] [] pos') s ((List.range m).map fun i : Nat => D.int ((m - 1 - i : Nat) : Int)) s1 :=
  fun as B H σ ok R q => wI_of (pi_revR hg hm (prg_1 hg2 hr pe_w h1) hs) (Ok.one h ok fun v B1 H1 x1 o1 r1 => by
    cases r1
    refine ⟨m, rfl, by omega, by omega, by omega, by omega, q _ B1 H1 x1 o1 ?_⟩
    have e : ((m : Int) - 0).toNat = m := by omega
    rw [e]
    have len : ((List.range m).map fun i : Nat => D.int ((m - 1 - i : Nat) : Int)).length = m := by rw [List.length_map, List.length_range]
    refine ⟨fun i H hi _ => by rw [len] at hi; exact hi, fun H _ => by rw [len]; exact Nat.le_refl _, fun i H v H' hi _ y => ?_⟩
    rw [len] at hi
    obtain ⟨e1, e2⟩ := y
    subst e2
    refine ⟨e1, .int ((m - 1 - i : Nat) : Int), by rw [List.getElem?_map, List.getElem?_range hi]; rfl, ?_⟩
    have e3 : (0 : Int) + (m : Int) - 1 + (i : Int) * (-1) = ((m - 1 - i : Nat) : Int) := by omega
    rw [e3]
    exact .int _)
theorem jf_listR {m : Nat} (C : Cok X W k) (hm : X.mg "list" = none) (hr : X.mg "range" = none) (h : JE X WN a s (.ok (.int (m : Nat))) s1) (hn : m ≤ 16777216) (hg : Gl X "list" := by rfl) (hg2 : Gl X "range" := by rfl) (h1 : starEach [a] X.env = (false, eval a X.env) :: starEach [] X.env := by rfl)
    (hs : starEach [Expr.Call (.Name "range" p) [a] [] pos] X.env = (false, eval (.Call (.Name "range" p) [a] [] pos) X.env) :: starEach [] X.env := by rfl) : JF X (.Call (.Name "list" p2) [.Call (.Name "range" p) [a] [] pos] [] pos') s ((List.range m).map fun i : Nat => D.int (i : Nat)) s1 :=
  jf_of (pe_listRg C.calm hg hm (prg_1 hg2 hr pe_w h1) hs) fun as B H σ ok Q q => Ok.one h ok fun v B1 H1 x1 o1 r1 => by
    cases r1
    refine ⟨m, rfl, RgOk.of_le (by omega) (by omega) (by omega) (by omega), fun p hp => ?_⟩
    have e : rgV 0 (m : Int) = (List.range m).map fun i : Nat => V.int (i : Nat) := by
      unfold rgV
      have e1 : ((m : Int) - 0).toNat = m := by omega
      rw [e1]
      exact List.map_congr_left fun i _ => by rw [Int.zero_add]
    rw [e]
    have rr : ∀ l : List Nat, Reps X.K B1 (l.map fun i : Nat => V.int (i : Nat)) (l.map fun i : Nat => D.int (i : Nat)) := fun l => by
      induction l with
      | nil => exact .nil
      | cons x l ih => exact .cons (.int _) ih
    exact Ok.newF x1 o1 hp (rr _) q
/-- l.count(y), a list of ints -/
theorem je_countI {ns : List Int} {i : Int} (ha : JE X W a s (.ok (.lst (ns.map .int))) s1) (hb : JE X W b s1 (.ok (.int i)) s2) (hbase : attributeBase a "count" X.env (eval a X.env) = eval a X.env := by rfl)
    (hfew : ((backTo p (starEach (b :: []) X.env)).all (fun x => !x.1) && (backToKw p (keywordEach [] X.env)).all (fun x => x.1.isSome)
      && decide ((b :: []).length + ([] : List Keyword).length + (if ([] : List Keyword).isEmpty then 0 else 1) < 30)) = true := by rfl)
    (hline : (apos.endLine == p.line) = true := by rfl) (hs : starEach (b :: []) X.env = (false, eval b X.env) :: starEach [] X.env := by rfl) (hplain : (backTo p (starEach [] X.env)).any (·.1) = false := by rfl) :
    JE X W (.Call (.Attribute a "count" apos) [b] [] p) s (.ok (.int (ns.count i : Nat))) s2 :=
  je_of (pe_bm PySem.F.plainAttrs_list PySem.F.slot_list_count PySem.F.type_list_count mt_lcount pe_w (pa_cons pe_w pa_nil hs) hbase hfew hline hs hplain) fun as B H σ ok Q q => Ok.one ha ok fun v B1 H1 x1 o1 r1 => by
    cases r1 with
    | lst h1 h2 =>
      have z := h2.ints
      subst z
      refine ⟨.inl ⟨rfl, _, .inl (.inl (o1.sm _ _ h1))⟩, Ok.one hb o1 fun y B2 H2 x2 o2 r2 => ?_⟩
      cases r2
      exact ⟨_, ns, i, rfl, rfl, .inl (.inl (o2.sm _ _ (x2.b _ _ h1))), q _ B2 H2 (x1.trans x2) o2 (.int _)⟩
/-- l.index(y), a list of flat things -/
theorem je_index {j : Nat} {z : D} {n : Nat} {V : WX} (C : Cok X V k) (ha : JE X W a s (.ok (.lst xs)) s1) (hb : JE X W b s1 (.ok d) s2) (hn : n ≤ 58) (h1 : ∀ x ∈ xs, Sh n x) (h2 : Sh n d) (hj : xs[j]? = some z) (hz : D.eqv z d = true) (hno : ∀ m z', m < j → xs[m]? = some z' → D.eqv z' d = false)
    (hbase : attributeBase a "index" X.env (eval a X.env) = eval a X.env := by rfl)
    (hfew : ((backTo p (starEach (b :: []) X.env)).all (fun x => !x.1) && (backToKw p (keywordEach [] X.env)).all (fun x => x.1.isSome)
      && decide ((b :: []).length + ([] : List Keyword).length + (if ([] : List Keyword).isEmpty then 0 else 1) < 30)) = true := by rfl)
    (hline : (apos.endLine == p.line) = true := by rfl) (hs : starEach (b :: []) X.env = (false, eval b X.env) :: starEach [] X.env := by rfl) (hplain : (backTo p (starEach [] X.env)).any (·.1) = false := by rfl) :
    JE X W (.Call (.Attribute a "index" apos) [b] [] p) s (.ok (.int (j : Nat))) s2 :=
  je_of (pe_bm PySem.F.plainAttrs_list PySem.F.slot_list_index PySem.F.type_list_index (mt_indexD C.u65) pe_w (pa_cons pe_w pa_nil hs) hbase hfew hline hs hplain) fun as B H σ ok Q q => Ok.one ha ok fun v B1 H1 x1 o1 r1 => by
    have sl : Sh (n + 1) (.lst xs) := by simpa [Sh] using h1
    have dl := r1.dp (n + 1) sl
    rw [D.py] at dl
    cases r1 with
    | lst g1 g2 =>
      refine ⟨.inl ⟨rfl, _, .inl (.inl (o1.sm _ _ g1))⟩, Ok.one hb o1 fun y B2 H2 x2 o2 r2 => ?_⟩
      refine ⟨_, y, d.py, D.pys xs, j, z.py, rfl, rfl, dp_same (x2.b.trans o2.sm) dl, dp_same o2.sm (r2.dp n h2), ?_, shaped_of h2 (by omega), ?_, hz, fun m z' hm hz' => ?_, q _ B2 H2 (x1.trans x2) o2 (.int _)⟩
      · have z := shaped_of sl (by omega)
        rw [D.py] at z
        exact z
      · rw [pys_map, List.getElem?_map, hj]; rfl
      · rw [pys_map, List.getElem?_map] at hz'
        cases e : xs[m]? with
        | none => rw [e] at hz'; cases hz'
        | some w =>
          rw [e] at hz'
          cases hz'
          exact hno m w hm e
end
end DL
set_option Elab.async false
set_option linter.all false
set_option maxRecDepth 100000
set_option maxHeartbeats 4000000
set_option autoImplicit true
/-! DLi: count of truth values, the least and greatest of a tuple -/
namespace DL
open PySem PySem.Spec PyProof.Rows L2
def rCntV (K : PySem.W.Frag) : V → List V → Hp → VK → Prop := fun x xs H Q => ∃ (p : Addr) (ys : List V) (y : V), x = .ref p ∧ xs = [y] ∧ SqL K H p ys ∧ flatV y = true ∧ ys.all flatV = true ∧ Q (.int (ys.countP (fun z => eqV z y) : Nat)) H
theorem countP_eqU {x : V} : ∀ {xs : List V} {us : List Value}, Vals xs us → xs.all flatV = true → us.countP (eqU x) = xs.countP fun y => eqV y x
  | _, _, .nil, _ => rfl
  | _, _, .cons (a := v) (b := u) r t, f => by
    rw [List.all_cons, Bool.and_eq_true] at f
    rw [List.countP_cons, List.countP_cons, countP_eqU t f.2, eqU_of r f.1]
theorem mt_countV {X : Cx} : MtR X "list.count" (rCntV X.K) := by
  intro _ s _ H x xs v us Q I rx rxs ⟨p, ys, y, ex, exs, hs, fy, fa, q⟩
  subst ex exs
  cases rx
  obtain ⟨u, eu, ru⟩ := rxs.one
  subst eu
  obtain ⟨its, rv, ⟨⟨cls, dd, data, sl⟩, n, ho, c0, _, d0⟩, _⟩ := I.list hs
  simp only at c0 d0
  subst c0 d0
  refine call_meets PySem.F.slot_list_count ⟨_, ho, rfl⟩ PySem.F.entry_list_count
    (PySem.F.args_list_count_2 _ _) (SeqAt.list_countAt p its.toArray n dd sl u (eqU y)) ⟨ho, fun z hz => mem_eqAt ru fy rv fa z (by simpa using hz), ?_⟩
  have ec : its.toArray.toList.countP (eqU y) = ys.countP (fun z => eqV z y) := countP_eqU rv fa
  refine ⟨.int (ys.countP (fun z => eqV z y) : Nat), H, I.tok _, ⟨s.toks, ?_⟩, q⟩
  show Value.int ((its.toArray.toList.countP (eqU y) : Nat) : Int) s.toks = _
  rw [ec]
section
variable {X : Cx} {W : WX} {k : Nat} {e a b c tg iter elt : Expr} {es rest tgs ifs : List Expr} {s s' s1 s2 s3 : A} {d d' d1 d2 d3 da db dc : D} {xs ys : List D} {pos p2 p apos pos' : Pos}
theorem countB {β : Bool} : ∀ bs : List Bool, (bs.map V.bl).countP (fun z => eqV z (.bl β)) = bs.count β
  | [] => rfl
  | b :: bs => by
    rw [List.map_cons, List.countP_cons, countB bs, List.count_cons]
    cases b <;> cases β <;> rfl
theorem je_countB {bs : List Bool} {β : Bool} (ha : JE X W a s (.ok (.lst (bs.map .bl))) s1) (hb : JE X W b s1 (.ok (.bl β)) s2) (hbase : attributeBase a "count" X.env (eval a X.env) = eval a X.env := by rfl)
    (hfew : ((backTo p (starEach (b :: []) X.env)).all (fun x => !x.1) && (backToKw p (keywordEach [] X.env)).all (fun x => x.1.isSome)
      && decide ((b :: []).length + ([] : List Keyword).length + (if ([] : List Keyword).isEmpty then 0 else 1) < 30)) = true := by rfl)
    (hline : (apos.endLine == p.line) = true := by rfl) (hs : starEach (b :: []) X.env = (false, eval b X.env) :: starEach [] X.env := by rfl) (hplain : (backTo p (starEach [] X.env)).any (·.1) = false := by rfl) :
    JE X W (.Call (.Attribute a "count" apos) [b] [] p) s (.ok (.int (bs.count β : Nat))) s2 :=
  je_of (pe_bm PySem.F.plainAttrs_list PySem.F.slot_list_count PySem.F.type_list_count mt_countV pe_w (pa_cons pe_w pa_nil hs) hbase hfew hline hs hplain) fun as B H σ ok Q q => Ok.one ha ok fun v B1 H1 x1 o1 r1 => by
    cases r1 with
    | lst h1 h2 =>
      have z := h2.bls
      subst z
      refine ⟨.inl ⟨rfl, _, .inl (.inl (o1.sm _ _ h1))⟩, Ok.one hb o1 fun y B2 H2 x2 o2 r2 => ?_⟩
      cases r2
      refine ⟨_, _, _, rfl, rfl, .inl (.inl (o2.sm _ _ (x2.b _ _ h1))), rfl, by simp [flatV], ?_⟩
      rw [countB]
      exact q _ B2 H2 (x1.trans x2) o2 (.int _)
theorem alike_ints (n : Int) (ns : List Int) : PySem.W.AlikeAll (PyData.int n :: ns.map .int) := by
  have h : ∀ x ∈ PyData.int n :: ns.map .int, ∃ i, x = .int i := fun x hx => by
    rcases List.mem_cons.mp hx with rfl | hx
    · exact ⟨_, rfl⟩
    · obtain ⟨i, _, rfl⟩ := List.mem_map.mp hx
      exact ⟨i, rfl⟩
  refine ⟨fun x hx y hy => ?_, fun x hx z => ?_⟩
  · obtain ⟨i, rfl⟩ := h x hx
    obtain ⟨j, rfl⟩ := h y hy
    rfl
  · obtain ⟨i, rfl⟩ := h x hx
    cases z
theorem depth_ints : ∀ ns : List Int, PyData.depthAll (ns.map .int) = 0
  | [] => rfl
  | n :: ns => by rw [List.map_cons, PyData.depthAll, depth_ints ns]; rfl
theorem dp_ints {K : PySem.W.Frag} {H : Hp} : ∀ ns : List Int, DpAll K H (ns.map V.int) (ns.map .int)
  | [] => .nil
  | n :: ns => .cons (.int n) (dp_ints ns)
/-- the least, the greatest of a tuple of ints -/
def rMinT (K : PySem.W.Frag) : List V → Hp → VK → Prop := fun vs H Q => ∃ (a : Addr) (n : Int) (ns : List Int), vs = [V.ref a] ∧ SqT K H a ((n :: ns).map V.int) ∧ Q (.int (ns.foldl min n)) H
def rMaxT (K : PySem.W.Frag) : List V → Hp → VK → Prop := fun vs H Q => ∃ (a : Addr) (n : Int) (ns : List Int), vs = [V.ref a] ∧ SqT K H a ((n :: ns).map V.int) ∧ Q (.int (ns.foldl max n)) H
theorem cr_minT (hc : X.calm = true) (hu : X.A.units + 64 < cLine) : CallR X (.builtin "min") (rMinT X.K) := by
  intro _ s σ H vs us Q I r ⟨a, n, ns, ev, hs, q⟩
  subst ev
  obtain ⟨its, rv, hl, _⟩ := I.tuple hs
  rw [Vals.ref1 r]
  obtain ⟨as, hr⟩ := Dp.readsAll I _ _ _ (dp_ints (K := X.K) (H := H) (n :: ns)) rv
  refine PySem.W.min_tuple_data (I.ok.hd hc) hl hr (alike_ints n ns) (by
    rw [show (PyData.int n :: ns.map .int) = (n :: ns).map PyData.int from rfl, depth_ints]
    omega) fun i v h' tk bs hv hread k => ?_
  rw [PySem.W.minD_ints] at hread
  cases hread with
  | int i t => exact ⟨.int _, H, I.kept k, ⟨_, rfl⟩, q⟩
theorem cr_maxT (hc : X.calm = true) (hu : X.A.units + 64 < cLine) : CallR X (.builtin "max") (rMaxT X.K) := by
  intro _ s σ H vs us Q I r ⟨a, n, ns, ev, hs, q⟩
  subst ev
  obtain ⟨its, rv, hl, _⟩ := I.tuple hs
  rw [Vals.ref1 r]
  obtain ⟨as, hr⟩ := Dp.readsAll I _ _ _ (dp_ints (K := X.K) (H := H) (n :: ns)) rv
  refine PySem.W.max_tuple_data (I.ok.hd hc) hl hr (alike_ints n ns) (by
    rw [show (PyData.int n :: ns.map .int) = (n :: ns).map PyData.int from rfl, depth_ints]
    omega) fun i v h' tk bs hv hread k => ?_
  rw [PySem.W.maxD_ints] at hread
  cases hread with
  | int i t => exact ⟨.int _, H, I.kept k, ⟨_, rfl⟩, q⟩
theorem je_minT {n : Int} {ns : List Int} {V : WX} (C : Cok X V k) (hm : X.mg "min" = none) (ha : JE X W a s (.ok (.tup ((n :: ns).map .int))) s1) (hg : Gl X "min" := by rfl)
    (he : starEach (a :: []) X.env = (false, eval a X.env) :: starEach [] X.env := by rfl) (hpl : (backTo pos (starEach [] X.env)).any (·.1) = false := by rfl) : JE X W (.Call (.Name "min" p) [a] [] pos) s (.ok (.int (ns.foldl min n))) s1 :=
  je_call1 (cr_minT C.calm C.hr.units) ha (fun as B H B1 H1 σ v Q e1 o1 r1 q => by
      cases r1 with
      | tup g1 g2 =>
        have z := g2.ints
        subst z
        exact ⟨_, n, ns, rfl, same_t o1.sm g1, q _ B1 H1 e1 o1 (.int _)⟩) hm (by decide +kernel) hg (by decide) (by decide) he hpl
theorem je_maxT {n : Int} {ns : List Int} {V : WX} (C : Cok X V k) (hm : X.mg "max" = none) (ha : JE X W a s (.ok (.tup ((n :: ns).map .int))) s1) (hg : Gl X "max" := by rfl)
    (he : starEach (a :: []) X.env = (false, eval a X.env) :: starEach [] X.env := by rfl) (hpl : (backTo pos (starEach [] X.env)).any (·.1) = false := by rfl) : JE X W (.Call (.Name "max" p) [a] [] pos) s (.ok (.int (ns.foldl max n))) s1 :=
  je_call1 (cr_maxT C.calm C.hr.units) ha (fun as B H B1 H1 σ v Q e1 o1 r1 q => by
      cases r1 with
      | tup g1 g2 =>
        have z := g2.ints
        subst z
        exact ⟨_, n, ns, rfl, same_t o1.sm g1, q _ B1 H1 e1 o1 (.int _)⟩) hm (by decide +kernel) hg (by decide) (by decide) he hpl
end
end DL
set_option Elab.async false
set_option linter.all false
set_option maxRecDepth 100000
set_option maxHeartbeats 4000000
set_option autoImplicit true
/-! DLj: loops that fold -/
namespace DL
open PySem PySem.Spec PyProof.Rows L2
section
variable {X : Cx} {W : WX} {k : Nat} {e a b c tg iter elt : Expr} {es rest tgs ifs : List Expr} {st : Stmt} {sts body orelse : List Stmt} {s s' s1 s2 s3 : A} {P : Po} {d d' d1 d2 d3 da db dc : D} {r : Res} {ds : List D} {xs ys : List D} {pos p2 p apos pos' px py pz np : Pos} {x y z n : Str} {β β1 β2 : Bool} {op : CmpOp} {l : List Sl}
/-- s tells no less than t -/
def Le (s t : A) : Prop := s.cl = t.cl ∧ Les s.sl t.sl
theorem Le.refl (s : A) : Le s s := ⟨rfl, Les.refl _⟩
theorem jb_le {t : A} (h : Le s t) (k : JB X W sts t P) : JB X W sts s P := fun as B H σ ok Dn f => by
  have o := ok.less h.2
  rw [h.1] at o
  exact k as B H σ o Dn f
/-- the end of a turn, or of a branch -/
theorem jb_fin {t : A} (hP : P.nx t) (h1 : s.cl = t.cl := by rfl) (h : Les s.sl t.sl := by (repeat (first | exact Les.nil | apply Les.eq | apply Les.u))) : JB X W [] s P := jb_le ⟨h1, h⟩ (jb_nil hP)
theorem ixN_nat {n i : Nat} (h : i < n) : ixN n (i : Nat) = some i := by
  unfold ixN
  rw [if_pos (by omega), if_pos (by omega)]
  simp
/-- l[e2] = e, the place a number -/
theorem js_setN (i j : Nat) {cl : List Cl} {m : Nat} (he : JE X WN e s (.ok d) s1) (hb : JE X WN b s1 (.ok (.int (m : Nat))) s2) (hix : m < xs.length) (hP : P.nx ⟨l, cl⟩) (hsl : s2.sl = l := by (first | (dsimp only [List.set, List.length_cons, List.length_nil, List.cons_append, List.nil_append, Nat.reduceAdd]; done) | (dsimp only [List.set, List.length_cons, List.length_nil, List.cons_append, List.nil_append, Nat.reduceAdd]; exact rfl) | exact rfl)) (hi : s1.sl[i]? = some (.c j) := by rfl) (hc : s2.cl[j]? = some (.lst xs) := by rfl) (hcl : s2.cl.set j (.lst (xs.set m d)) = cl := by (first | (dsimp only [List.set, List.length_cons, List.length_nil, List.cons_append, List.nil_append, Nat.reduceAdd]; done) | (dsimp only [List.set, List.length_cons, List.length_nil, List.cons_append, List.nil_append, Nat.reduceAdd]; exact rfl) | exact rfl)) (hN : X.N[i]? = some x := by rfl)
    (hv : Vis X.env.scope x := by first | exact Or.inl rfl | exact Or.inr (Or.inl rfl) | exact Or.inr (Or.inr rfl)) (hd1 : (x == ("__debug__" : Str)) = false := by decide) (hd2 : (x == ("__classdict__" : Str)) = false := by decide)
    (ha : ∀ v, assign (.Subscript (.Name x p2) b p) X.env v = (do
      let ov ← holding [v] (eval (.Name x p2) X.env)
      let iv ← holding [v, ov] (eval b X.env)
      standAt p; holding [v, ov, iv] (setItem ov iv v); release [v, ov, iv] []) := by intro _; rfl)
    (hs : swapsWithSole [.Subscript (.Name x p2) b p] e pos.line X.env = pure false := by rfl) (hw : swappedStores [.Subscript (.Name x p2) b p] e X.env = pure none := by rfl)
    (h1 : (assignEach [.Subscript (.Name x p2) b p] X.env).map (·.2) = [assign (.Subscript (.Name x p2) b p) X.env] := by rfl) :
    JS X W (.Assign [.Subscript (.Name x p2) b p] e pos) s P := js_setix i j he hb (ixN_nat hix) hP hsl hi hc hcl hN hv hd1 hd2 ha hs hw h1
theorem flat_one {α : Type} (d : α) : ∀ k : Nat, (List.replicate k [d]).flatten = List.replicate k d
  | 0 => rfl
  | k + 1 => by rw [List.replicate_succ, List.flatten_cons, flat_one d k, List.replicate_succ]; rfl
theorem jf_rep1 {α : Type} (f : α → D) (a0 : α) (m : Nat) (ha : JE X WN a s (.ok (.lst [f a0])) s1) (hb : JE X WN b s1 (.ok (.int (m : Nat))) s2) (hn : m ≤ 16777216) : JF X (.BinOp a .Mult b pos) s ((List.replicate m a0).map f) s2 := by
  have h := jf_rep (pos := pos) ha hb (by omega) (by rw [sizeLine_eq, List.length_singleton]; omega)
  rw [Int.toNat_natCast, flat_one] at h
  rw [List.map_replicate]
  exact h
theorem js_le {t : A} (h : Le s t) (k : JS X W st t P) : JS X W st s P := fun as B H σ ok Dn f => by
  have o := ok.less h.2
  rw [h.1] at o
  exact k as B H σ o Dn f
/-- for: the state is S of a fold, Q holds of the fold so far -/
theorem js_fold {α γ : Type} (lst : List α) (f : γ → α → γ) (b0 : γ) (S : γ → A) (Q : Nat → γ → Prop) {enc : α → D} (C : Cok X W k) (hi : JI X tg iter (S b0) (lst.map enc) (S b0)) (q0 : Q 0 b0)
    (hs : ∀ i a b, (ha : lst[i]? = some a) → b = (lst.take i).foldl f b0 → Q i b → JG X tg (enc a) (S b) fun s2 => JB X W body s2 { P with nx := fun s3 => s3 = S (f b a) ∧ Q (i + 1) (f b a), ct := fun s3 => s3 = S (f b a) ∧ Q (i + 1) (f b a), bk := P.nx })
    (hd : Q lst.length (lst.foldl f b0) → P.nx (S (lst.foldl f b0))) (h1 : s.cl = (S b0).cl := by rfl) (h2 : Les s.sl (S b0).sl := by (repeat (first | exact Les.nil | apply Les.eq | apply Les.u)))
    (hf : ∀ x, foldedSetIterable iter X.env x = pure x := by intro _; rfl) : JS X W (.For tg iter body [] pos) s P := by
  refine js_le ⟨h1, h2⟩ (js_for (fun i s' => s' = S ((lst.take i).foldl f b0) ∧ Q i ((lst.take i).foldl f b0)) C hi ⟨rfl, q0⟩ (fun i d s' hd' h => ?_) (fun s' h => ?_) hf)
  · obtain ⟨rfl, hq⟩ := h
    rw [List.getElem?_map] at hd'
    cases e : lst[i]? with
    | none => rw [e] at hd'; cases hd'
    | some a =>
      rw [e] at hd'
      have hd' : enc a = d := Option.some.inj hd'
      subst hd'
      have g := hs i a _ e rfl hq
      have e2 : (lst.take (i + 1)).foldl f b0 = f ((lst.take i).foldl f b0) a := by
        rw [List.take_add_one, e, List.foldl_append]
        rfl
      rw [e2]
      exact g
  · obtain ⟨rfl, hq⟩ := h
    rw [List.length_map, List.take_length] at hq ⊢
    exact hd hq
end
end DL
set_option Elab.async false
set_option linter.all false
set_option maxRecDepth 100000
set_option maxHeartbeats 4000000
set_option autoImplicit true
/-! DLk: dicts with tuples of numbers as keys; calls that hand cells -/
namespace DL
open PySem PySem.Spec PyProof.Rows L2
/-! ### what a dict holds -/
def dval (kvs : List (List Key × D)) (k : List Key) : Option D := (kvs.find? fun kv => decide (kv.1 = k)).map (·.2)
def dput (kvs : List (List Key × D)) (k : List Key) (d : D) : List (List Key × D) :=
  if (kvs.any fun kv => decide (kv.1 = k)) = true then kvs.map (fun kv => if kv.1 = k then (kv.1, d) else kv) else kvs ++ [(k, d)]
def nkey (ns : List Int) : List Key := ns.map .inl
theorem nkey_kV (ns : List Int) : (nkey ns).map kV = ns.map V.int := by unfold nkey; rw [List.map_map]; rfl
section
variable {K : PySem.W.Frag} {B : Hp}
theorem dval_rep {k : List Key} : ∀ {kvs : List (List Key × D)} {us : List (List Key × V)}, us.map (·.1) = kvs.map (·.1) → Reps K B (us.map (·.2)) (kvs.map (·.2)) →
    match dval kvs k with
    | none => valV us k = none
    | some d => ∃ v, valV us k = some v ∧ Rep K B v d
  | [], [], _, _ => rfl
  | [], _ :: _, h, _ => by simp at h
  | _ :: _, [], h, _ => by simp at h
  | (k1, d1) :: kvs, (k2, v2) :: us, h, r => by
    rw [List.map_cons, List.map_cons] at h r
    injection h with h1 h2
    cases r with
    | cons r1 r2 =>
      have ih := dval_rep (k := k) h2 r2
      have h1' : k2 = k1 := h1
      subst h1'
      by_cases e : k2 = k
      · have e1 : dval ((k2, d1) :: kvs) k = some d1 := by simp [dval, List.find?_cons, e]
        rw [e1, valV_pos e]
        exact ⟨_, rfl, r1⟩
      · have e1 : dval ((k2, d1) :: kvs) k = dval kvs k := by simp [dval, List.find?_cons, e]
        rw [e1, valV_neg e]
        exact ih
theorem keys_any {κ α β : Type} [DecidableEq κ] (k : κ) : ∀ {l : List (κ × α)} {m : List (κ × β)}, l.map (·.1) = m.map (·.1) → (l.any fun kv => decide (kv.1 = k)) = m.any fun kv => decide (kv.1 = k)
  | [], [], _ => rfl
  | [], _ :: _, h => by simp at h
  | _ :: _, [], h => by simp at h
  | p :: l, q :: m, h => by
    rw [List.map_cons, List.map_cons] at h
    injection h with h1 h2
    rw [List.any_cons, List.any_cons, keys_any k h2, h1]
theorem keys_put {κ α β : Type} [DecidableEq κ] (k : κ) (x : α) (y : β) : ∀ {l : List (κ × α)} {m : List (κ × β)}, l.map (·.1) = m.map (·.1) → (l.map fun kv => if kv.1 = k then (kv.1, x) else kv).map (·.1) = (m.map fun kv => if kv.1 = k then (kv.1, y) else kv).map (·.1)
  | [], [], _ => rfl
  | [], _ :: _, h => by simp at h
  | _ :: _, [], h => by simp at h
  | p :: l, q :: m, h => by
    rw [List.map_cons, List.map_cons] at h
    injection h with h1 h2
    rw [List.map_cons, List.map_cons, List.map_cons, List.map_cons, keys_put k x y h2]
    congr 1
    by_cases e : p.1 = k
    · rw [if_pos e, if_pos (h1 ▸ e)]; exact h1
    · rw [if_neg e, if_neg (h1 ▸ e)]; exact h1
theorem vals_put {k : List Key} {v : V} {d : D} (r0 : Rep K B v d) : ∀ {kvs : List (List Key × D)} {us : List (List Key × V)}, us.map (·.1) = kvs.map (·.1) → Reps K B (us.map (·.2)) (kvs.map (·.2)) →
    Reps K B ((us.map fun kv => if kv.1 = k then (kv.1, v) else kv).map (·.2)) ((kvs.map fun kv => if kv.1 = k then (kv.1, d) else kv).map (·.2))
  | [], [], _, _ => .nil
  | [], _ :: _, h, _ => by simp at h
  | _ :: _, [], h, _ => by simp at h
  | p :: kvs, q :: us, h, r => by
    rw [List.map_cons, List.map_cons] at h r
    injection h with h1 h2
    cases r with
    | cons r1 r2 =>
      have ih := vals_put (k := k) r0 h2 r2
      rw [List.map_cons, List.map_cons, List.map_cons, List.map_cons]
      refine .cons ?_ ih
      by_cases e : q.1 = k
      · rw [if_pos e, if_pos (h1 ▸ e)]; exact r0
      · rw [if_neg e, if_neg (h1 ▸ e)]; exact r1
theorem put_keys {k : List Key} {v : V} {d : D} {kvs : List (List Key × D)} {us : List (List Key × V)} (h : us.map (·.1) = kvs.map (·.1)) : (putK us k v).map (·.1) = (dput kvs k d).map (·.1) := by
  unfold putK dput
  rw [keys_any k h]
  split
  · exact keys_put k v d h
  · rw [List.map_append, List.map_append, h]; rfl
theorem put_vals {k : List Key} {v : V} {d : D} (r0 : Rep K B v d) {kvs : List (List Key × D)} {us : List (List Key × V)} (h : us.map (·.1) = kvs.map (·.1)) (r : Reps K B (us.map (·.2)) (kvs.map (·.2))) : Reps K B ((putK us k v).map (·.2)) ((dput kvs k d).map (·.2)) := by
  unfold putK dput
  rw [keys_any k h]
  split
  · exact vals_put r0 h r
  · rw [List.map_append, List.map_append]; exact r.append (.cons r0 .nil)
end
section
variable {X : Cx} {W : WX} {k : Nat} {e a b c : Expr} {es : List Expr} {s s' s1 s2 s3 : A} {P : Po} {d da db : D} {r : Res} {ds : List D} {xs ys : List D} {sls : List Sl} {pos p2 p apos pos' py : Pos} {x y : Str} {β : Bool} {l : List Sl} {cl : List Cl} {ns : List Int} {kvs : List (List Key × D)} {q : Nat}
theorem Cok.u1 (C : Cok X W k) : X.A.units + 1 < cLine := by have := C.hr.un; omega
/-- x = {}: a cell -/
theorem js_newD (i : Nat) (C : Cok X W k) (hP : P.nx ⟨l, cl⟩) (hl : s.sl.set i (.c s.cl.length) = l := by (first | (dsimp only [List.set, List.length_cons, List.length_nil, List.cons_append, List.nil_append, Nat.reduceAdd]; done) | (dsimp only [List.set, List.length_cons, List.length_nil, List.cons_append, List.nil_append, Nat.reduceAdd]; exact rfl) | exact rfl)) (hcl : s.cl ++ [.dic []] = cl := by (first | (dsimp only [List.set, List.length_cons, List.length_nil, List.cons_append, List.nil_append, Nat.reduceAdd]; done) | (dsimp only [List.set, List.length_cons, List.length_nil, List.cons_append, List.nil_append, Nat.reduceAdd]; exact rfl) | exact rfl)) (hi : X.N[i]? = some x := by rfl) (hx : Loc X.env.scope x := by first | exact .inl rfl | exact .inr rfl) (hn : i < s.sl.length := by exact of_decide_eq_true rfl) (hs : swapsWith (.Dict [] [] p) (some (.Name x pos')) pos.line X.env = pure false := by rfl) (hf : X.fn x = true ∨ X.env.scope.names.lookup x = some .local := by first | exact .inl rfl | exact .inr rfl) :
    JS X W (.Assign [.Name x pos'] (.Dict [] [] p) pos) s P := js_of (ps_set C.nd hi hx pe_dnewT hs hf) fun as B H σ ok Dn f => fun p hp => by
  obtain ⟨o1, x1⟩ := ok.cell (o := .dT []) (c := .dic []) hp ⟨[], upd_same, rfl, .nil⟩
  have hl1 := ok.cs.1
  have o2 := o1.store (i := i) (o := some (.ref p)) (x := .c s.cl.length) hn ⟨p, by rw [← hl1, List.getElem?_append_right (Nat.le_refl _)]; simp, rfl⟩
  dsimp only at o2
  rw [hl] at o2
  rw [← hcl] at hP
  exact f.nx _ _ _ _ _ x1 o2 hP
/-- the key of a dict, made for one look -/
theorem key_new {as : List Addr} {B H : Hp} {σ : L2.St} {vs : List V} {K : PySem.W.Frag} {s : A} (ok : Ok K as B H σ s) (r : Reps K B vs (ns.map .int)) {b : Addr} (hb : H b = none) : Ok K as (upd B b (.tup vs)) (upd H b (.tup vs)) σ s ∧ Ext as B H as (upd B b (.tup vs)) (upd H b (.tup vs)) ∧ (upd H b (.tup vs)) b = some (.tup ((nkey ns).map kV)) := by
  obtain ⟨o1, x1⟩ := ok.new (o := .tup vs) hb
  refine ⟨o1, x1, ?_⟩
  rw [upd_same, nkey_kV, r.ints]
/-- (..) not in d, (..) in d -/
theorem jt_dnin (i : Nat) {j q : Nat} (C : Cok X W k) (h : JD X es s (ns.map .int) s) (hlen : ns.length ≤ sizeLine := by exact Nat.le_of_ble_eq_true rfl) (hi : s.sl[i]? = some (.c j) := by rfl) (hc : s.cl[j]? = some (.dic kvs) := by rfl) (hN : X.N[i]? = some x := by rfl)
    (hv : Vis X.env.scope x := by first | exact Or.inl rfl | exact Or.inr (Or.inl rfl) | exact Or.inr (Or.inr rfl)) (hd1 : (x == ("__debug__" : Str)) = false := by decide) (hd2 : (x == ("__classdict__" : Str)) = false := by decide)
    (hm : behindInMarks .NotIn (.Name x p) = false := by first | exact nobehind _ (by decide) (by decide) | rfl) : JT X (.Compare (.Tuple es q p2) [.NotIn] [.Name x p] pos) s (!(dval kvs (nkey ns)).isSome) :=
  jt_of (pt_cmp (pc_dnotin C.u1 (pe_tup pa_w) (pe_var hN hv hd1 hd2)) hm) fun as B H σ ok Q q => h as B H σ ok _ fun vs B1 H1 e1 o1 r => by
    have ln := r.length
    rw [List.length_map] at ln
    refine ⟨by omega, fun b hb => ?_⟩
    obtain ⟨o2, e2, hkey⟩ := key_new o1 r hb
    obtain ⟨a, v1, ha⟩ := cell_of o2 hi
    obtain ⟨us, hu, hks, hvs⟩ := o2.cs.2 j a _ ha hc
    refine ⟨.ref a, v1, a, valV us (nkey ns), rfl, .t hu hkey, _, rfl, ?_⟩
    have z := dval_rep (k := nkey ns) hks hvs
    have ez : (dval kvs (nkey ns)).isSome = (valV us (nkey ns)).isSome := by
      cases e : dval kvs (nkey ns) with
      | none => rw [e] at z; rw [show valV us (nkey ns) = none from z]; rfl
      | some d => rw [e] at z; obtain ⟨v, z, _⟩ := z; rw [z]; rfl
    rw [ez] at q
    exact q _ _ (e1.trans e2) o2
/-- d[(..)] -/
theorem je_dget (i : Nat) {j q : Nat} (C : Cok X W k) (h : JD X es s (ns.map .int) s1) (hg : dval kvs (nkey ns) = some d) (hlen : ns.length ≤ sizeLine := by exact Nat.le_of_ble_eq_true rfl) (hi : s.sl[i]? = some (.c j) := by rfl) (hc : s1.cl[j]? = some (.dic kvs) := by rfl) (hN : X.N[i]? = some x := by rfl)
    (hv : Vis X.env.scope x := by first | exact Or.inl rfl | exact Or.inr (Or.inl rfl) | exact Or.inr (Or.inr rfl)) (hd1 : (x == ("__debug__" : Str)) = false := by decide) (hd2 : (x == ("__classdict__" : Str)) = false := by decide)
    (hno : NoSl (.Tuple es q p2) := by first | exact fun _ _ => rfl | (intro _ _; rfl)) : JE X W (.Subscript (.Name x p) (.Tuple es q p2) pos) s (.ok d) s1 :=
  je_of (pe_dget C.u1 (pe_var hN hv hd1 hd2) (pe_tup pa_w) hno) fun as B H σ ok Q q => by
    obtain ⟨a, v1, ha⟩ := cell_of ok hi
    refine ⟨.ref a, v1, h as B H σ ok _ fun vs B1 H1 e1 o1 r => ?_⟩
    have ln := r.length
    rw [List.length_map] at ln
    refine ⟨by omega, fun b hb => ?_⟩
    obtain ⟨o2, e2, hkey⟩ := key_new o1 r hb
    obtain ⟨us, hu, hks, hvs⟩ := o2.cs.2 j a _ ha hc
    have z := dval_rep (k := nkey ns) hks hvs
    rw [hg] at z
    obtain ⟨v, z, rv⟩ := z
    exact ⟨a, v, rfl, by rw [← z]; exact .t hu hkey, q v _ _ (e1.trans e2) o2 rv⟩
/-- d[(..)] = e -/
theorem js_dput (i j : Nat) {q : Nat} (C : Cok X W k) (he : JE X WN e s (.ok d) s1) (h : JD X es s1 (ns.map .int) s2) (hm : kvs.length < sizeLine) (hP : P.nx ⟨l, cl⟩) (hsl : s2.sl = l := by (first | (dsimp only [List.set, List.length_cons, List.length_nil, List.cons_append, List.nil_append, Nat.reduceAdd]; done) | (dsimp only [List.set, List.length_cons, List.length_nil, List.cons_append, List.nil_append, Nat.reduceAdd]; exact rfl) | exact rfl))
    (hi : s1.sl[i]? = some (.c j) := by rfl) (hc : s2.cl[j]? = some (.dic kvs) := by rfl) (hcl : s2.cl.set j (.dic (dput kvs (nkey ns) d)) = cl := by (first | (dsimp only [List.set, List.length_cons, List.length_nil, List.cons_append, List.nil_append, Nat.reduceAdd]; done) | (dsimp only [List.set, List.length_cons, List.length_nil, List.cons_append, List.nil_append, Nat.reduceAdd]; exact rfl) | exact rfl)) (hlen : ns.length ≤ sizeLine := by exact Nat.le_of_ble_eq_true rfl) (hN : X.N[i]? = some x := by rfl)
    (hv : Vis X.env.scope x := by first | exact Or.inl rfl | exact Or.inr (Or.inl rfl) | exact Or.inr (Or.inr rfl)) (hd1 : (x == ("__debug__" : Str)) = false := by decide) (hd2 : (x == ("__classdict__" : Str)) = false := by decide)
    (hs : swapsWith e (some (.Subscript (.Name x p) (.Tuple es q p2) pos')) pos.line X.env = pure false := by rfl) : JS X W (.Assign [.Subscript (.Name x p) (.Tuple es q p2) pos'] e pos) s P :=
  js_of (ps_dput C.u1 (pe_var hN hv hd1 hd2) (pe_tup pa_w) pe_w hs) fun as B H σ ok Dn f => Ok.one he ok fun v B1 H1 x1 o1 r1 => by
    obtain ⟨a, v1, ha⟩ := cell_of o1 hi
    refine ⟨.ref a, v1, h as B1 H1 σ o1 _ fun vs B2 H2 x2 o2 r => ?_⟩
    have ln := r.length
    rw [List.length_map] at ln
    refine ⟨by omega, fun b hb => ?_⟩
    obtain ⟨o3, x3, hkey⟩ := key_new o2 r hb
    obtain ⟨us, hu, hks, hvs⟩ := o3.cs.2 j a _ ha hc
    have hl2 : us.length = kvs.length := by have := congrArg List.length hks; rwa [List.length_map, List.length_map] at this
    obtain ⟨o4, x4⟩ := o3.wr (o := .dT (putK us (nkey ns) v)) (c' := .dic (dput kvs (nkey ns) d)) ha hc True.intro ⟨_, upd_same, put_keys hks, put_vals ((r1.mono x2.b).mono x3.b) hks hvs⟩
    rw [hcl] at o4
    rw [← hsl] at hP
    exact ⟨a, _, rfl, .t hu hkey (by omega), f.nx as _ _ σ _ (((x1.trans x2).trans x3).trans x4) o4 hP⟩
/-! ### arguments that are cells -/
theorem ArgsOk.mono {K : PySem.W.Frag} {B B' : Hp} {as : List Addr} (e : Same B B') : ∀ {vs : List V} {xs : List Sl}, ArgsOk K B as vs xs → ArgsOk K B' as vs xs
  | _, _, .nil => .nil
  | _, _, .cons h t => .cons (h.mono e ⟨[], by simp⟩) (t.mono e)
theorem ja_nil : JA X [] s [] s := fun as B H σ ok Q q => wA_of pa_nil (q [] B H (Ext.refl ..) ok .nil)
theorem ja_val (ha : JE X WN e s (.ok d) s1) (hr : JA X es s1 sls s2) (hs : starEach (e :: es) X.env = (false, eval e X.env) :: starEach es X.env := by rfl) : JA X (e :: es) s (.d d :: sls) s2 :=
  fun as B H σ ok Q q => wA_of (pa_cons pe_w pa_w hs) (Ok.one ha ok fun v B1 H1 e1 o1 r => hr as B1 H1 σ o1 _ fun vs B2 H2 e2 o2 rr => q _ B2 H2 (e1.trans e2) o2 (.cons ⟨v, rfl, r.mono e2.b⟩ rr))
theorem ja_cell (i : Nat) {j : Nat} (hr : JA X es s sls s2) (hi : s.sl[i]? = some (.c j) := by rfl) (hN : X.N[i]? = some x := by rfl) (hv : Vis X.env.scope x := by first | exact Or.inl rfl | exact Or.inr (Or.inl rfl) | exact Or.inr (Or.inr rfl)) (hd1 : (x == ("__debug__" : Str)) = false := by decide) (hd2 : (x == ("__classdict__" : Str)) = false := by decide)
    (hs : starEach (.Name x p :: es) X.env = (false, eval (.Name x p) X.env) :: starEach es X.env := by rfl) : JA X (.Name x p :: es) s (.c j :: sls) s2 :=
  fun as B H σ ok Q q => wA_of (pa_cons (pe_var hN hv hd1 hd2) pa_w hs) (by
    obtain ⟨a, v1, ha⟩ := cell_of ok hi
    exact ⟨.ref a, v1, hr as B H σ ok _ fun vs B2 H2 e2 o2 rr => q _ B2 H2 e2 o2 (.cons ⟨a, ha, rfl⟩ rr)⟩)
/-- a cell speaks of cells below m alone -/
def Sl.below (m : Nat) : Sl → Bool
  | .c j => decide (j < m)
  | _ => true
def Cl.below (m : Nat) : Cl → Bool
  | .ins _ fs => fs.all fun f => f.2.below m
  | _ => true
theorem SlOk.cut {K : PySem.W.Frag} {B : Hp} {as as' : List Addr} {m : Nat} {o : Option V} {y : Sl} (h : SlOk K B as o y) (hb : y.below m = true) (e : ∀ j, j < m → as'[j]? = as[j]?) : SlOk K B as' o y := by
  cases y with
  | u => exact True.intro
  | d z => exact h
  | c j =>
    obtain ⟨a, h1, h2⟩ := h
    exact ⟨a, by rw [e j (of_decide_eq_true hb)]; exact h1, h2⟩
theorem ClOk.cut {K : PySem.W.Frag} {B H : Hp} {as as' : List Addr} {m : Nat} {a : Addr} {c : Cl} (h : ClOk K B as H a c) (hb : c.below m = true) (e : ∀ j, j < m → as'[j]? = as[j]?) : ClOk K B as' H a c := by
  cases c with
  | lst ds => exact h
  | dic kvs => exact h
  | dead => exact True.intro
  | ins C fs =>
    obtain ⟨dx, fs', h1, h2, h3⟩ := h
    refine ⟨dx, fs', h1, h2, fun i z hz => (h3 i z hz).cut ?_ e⟩
    rw [List.getElem?_map] at hz
    cases q : fs[i]? with
    | none => rw [q] at hz; cases hz
    | some f =>
      rw [q] at hz
      cases hz
      exact List.all_eq_true.mp hb f (List.mem_of_getElem? q)
/-! ### defs that are handed cells -/
/-- called with the arguments sls, the first m cells being cl, it comes to r and leaves them as cl' -/
def spC (K : PySem.W.Frag) (m : Nat) (pre : List Sl → List Cl → Res → List Cl → Prop) : Sp := fun vs H Q E => ∃ (as : List Addr) (B : Hp) (sls : List Sl) (cl : List Cl) (r : Res) (cl' : List Cl), Ok K as B H (vs.map some) ⟨sls, cl⟩ ∧ cl.length = m ∧ pre sls cl r cl' ∧ match r with
  | .ok d => ∀ v as' B' H' c, Ext as B H as' B' H' → Ok K as' B' H' [] ⟨[], c⟩ → c.take m = cl' → Rep K B' v d → Q v H'
  | .er ce => ∀ as' B' H' c, Ext as B H as' B' H' → Ok K as' B' H' [] ⟨[], c⟩ → c.take m = cl' → E (.ref ce) none H'
structure FnC (P : Program) (w : World) (K : PySem.W.Frag) (mg : Str → Option Value) (base : Heap) (x : Str) (n m k : Nat) (pre : List Sl → List Cl → Res → List Cl → Prop) : Prop where
  ex : ∃ (f : Addr) (fd : FuncData) (ps : List Str), ps.length = n ∧ FnOk P w K mg base (L2.CX P w) k f fd ps (spC K m pre) ∧ mg x = some (.ref f) ∧ PySem.W.keepIn K (.ref f) = true ∧ Binds K fd ps []
theorem ArgsOk.length {K : PySem.W.Frag} {B : Hp} {as : List Addr} : ∀ {vs : List V} {xs : List Sl}, ArgsOk K B as vs xs → vs.length = xs.length
  | _, _, .nil => rfl
  | _, _, .cons _ t => by rw [List.length_cons, List.length_cons, t.length]
theorem ArgsOk.get {K : PySem.W.Frag} {B : Hp} {as : List Addr} : ∀ {vs : List V} {xs : List Sl} (i : Nat) (y : Sl), ArgsOk K B as vs xs → xs[i]? = some y → SlOk K B as (((vs.map some)[i]?).join) y
  | _, _, _, _, .nil, e => by simp at e
  | _, _, 0, _, .cons h _, e => by simp at e; subst e; exact h
  | _, _, i + 1, y, .cons _ t, e => by
    rw [List.getElem?_cons_succ] at e
    exact t.get i y e
/-- what a caller knows behind a call that had the first m of its cells -/
theorem ok_back {K : PySem.W.Frag} {as as' : List Addr} {B B' H H' : Hp} {σ : L2.St} {s : A} {m : Nat} {c : List Cl} (ok : Ok K as B H σ s) (hm : m ≤ s.cl.length) (x : Ext (as.take m) B H as' B' H') (o : Ok K as' B' H' [] ⟨[], c⟩) (hb : (c.take m).all (·.below m) = true) :
    Ext as B H as B' H' ∧ Ok K as B' H' σ ⟨s.sl, c.take m ++ s.cl.drop m⟩ := by
  have hl := ok.cs.1
  have sub : ∀ a, a ∉ as → a ∉ as.take m := fun a h z => h (List.mem_of_mem_take z)
  obtain ⟨ns, rfl, hns⟩ := x.l
  have hml : (as.take m).length = m := by rw [List.length_take]; omega
  have hcl : as.take m ++ ns = as.take m ++ ns := rfl
  have hc := o.cs.1
  rw [List.length_append, hml] at hc
  have hct : (c.take m).length = m := by rw [List.length_take]; dsimp only at hc; omega
  have same : ∀ j, j < m → as[j]? = (as.take m ++ ns)[j]? := fun j hj => by
    rw [List.getElem?_append_left (by omega), List.getElem?_take, if_pos hj]
  have far : ∀ j a, m ≤ j → as[j]? = some a → a ∉ as.take m := fun j a hj e z => by
    obtain ⟨i, hi, e2⟩ := List.getElem_of_mem z
    rw [List.length_take] at hi
    have e3 : as[i]? = some a := by
      rw [List.getElem_take] at e2
      rw [List.getElem?_eq_getElem (by omega), e2]
    have := nd_ix ok.nd e3 e
    omega
  refine ⟨⟨x.b, fun a u h e => x.k a u (sub a h) e, fun a e1 e2 h => x.n a e1 e2 (sub a h), ⟨[], by simp, fun _ z => nomatch z⟩, x.t⟩, o.sm, ok.nd, fun a ha => x.t a (ok.ht a ha), fun j a d h1 h2 h3 => ?_, ⟨?_, fun j a d h1 h2 => ?_⟩, ok.ln, fun i z hz => (ok.sl i z hz).mono x.b ⟨[], by simp⟩⟩
  · dsimp only at h2
    by_cases hj : j < m
    · rw [List.getElem?_append_left (by omega), List.getElem?_take, if_pos hj] at h2
      exact o.nb j a d (by rw [← same j hj]; exact h1) h2 h3
    · rw [List.getElem?_append_right (by omega), hct, List.getElem?_drop, Nat.add_sub_cancel' (by omega)] at h2
      exact x.n a (ok.nb j a d h1 h2 h3) (ok.ht a (List.mem_of_getElem? h1)) (far j a (by omega) h1)
  · dsimp only
    rw [List.length_append, hct, List.length_drop]
    omega
  · dsimp only at h2
    by_cases hj : j < m
    · rw [List.getElem?_append_left (by omega)] at h2
      have hbd : d.below m = true := List.all_eq_true.mp hb d (List.mem_of_getElem? h2)
      rw [List.getElem?_take, if_pos hj] at h2
      exact (o.cs.2 j a d (by rw [← same j hj]; exact h1) h2).cut hbd same
    · rw [List.getElem?_append_right (by omega), hct, List.getElem?_drop, Nat.add_sub_cancel' (by omega)] at h2
      exact (ok.cs.2 j a d h1 h2).mono x.b ⟨[], by simp⟩ fun _ u e => x.k a u (far j a (by omega) h1) e
theorem je_callC {n m j : Nat} {pre : List Sl → List Cl → Res → List Cl → Prop} {cl' : List Cl} (C : Cok X W k) (F : FnC X.prog X.w X.K X.mg X.base x n m j pre) (hk : j ≤ k) (ha : JA X (e :: es) s sls s1) (hp : pre sls (s1.cl.take m) r cl') (hm : m ≤ s1.cl.length := by exact of_decide_eq_true rfl) (hb1 : (s1.cl.take m).all (·.below m) = true := by rfl) (hb2 : cl'.all (·.below m) = true := by rfl) (hb3 : sls.all (·.below m) = true := by rfl)
    (hcl : cl' ++ s1.cl.drop m = cl := by exact rfl) (hg : Gl X x := by rfl) (hdb : (x == ("__debug__" : Str)) = false := by decide) (he : starEach (e :: es) X.env = (false, eval e X.env) :: starEach es X.env := by rfl) (hpl : (backTo pos (starEach es X.env)).any (·.1) = false := by rfl) :
    JE X W (.Call (.Name x p) (e :: es) [] pos) s r ⟨s1.sl, cl⟩ := fun as B H σ ok Q q => by
  obtain ⟨f, fd, ps, hn, hf, hmg, hkp, hb⟩ := F.ex
  refine wE_of (pe_callS hf (C.hr.mono hk) hg hmg hkp hb (fun σ => passAt C.tk σ) pa_w hdb he hpl) (ha as B H σ ok _ fun vs B1 H1 x1 o1 r1 => ?_)
  have hl := o1.cs.1
  have same : ∀ j, j < m → (as.take m)[j]? = as[j]? := fun j hj => by rw [List.getElem?_take, if_pos hj]
  have o0 : Ok X.K (as.take m) B1 H1 (vs.map some) ⟨sls, s1.cl.take m⟩ := by
    refine ⟨o1.sm, o1.nd.sublist (List.take_sublist _ _), fun a ha => o1.ht a (List.mem_of_mem_take ha), fun j a d h1 h2 h3 => ?_, ⟨by simp [hl], fun j a d h1 h2 => ?_⟩, by rw [List.length_map]; exact r1.length, fun i z hz => ?_⟩
    · dsimp only at h2
      rw [List.getElem?_take] at h1 h2
      split at h1
      · rename_i hj
        rw [if_pos hj] at h2
        exact o1.nb j a d h1 h2 h3
      · cases h1
    · dsimp only at h2
      have hbd : d.below m = true := List.all_eq_true.mp hb1 d (List.mem_of_getElem? h2)
      rw [List.getElem?_take] at h1 h2
      split at h1
      · rename_i hj
        rw [if_pos hj] at h2
        exact (o1.cs.2 j a d h1 h2).cut hbd same
      · cases h1
    · exact (r1.get i z hz).cut (List.all_eq_true.mp hb3 z (List.mem_of_getElem? hz)) same
  refine ⟨as.take m, B1, sls, s1.cl.take m, r, cl', o0, by rw [List.length_take]; omega, hp, ?_⟩
  cases r with
  | ok d =>
    intro v as' B' H' c y o hc rv
    obtain ⟨x2, o2⟩ := ok_back o1 hm y o (by rw [hc]; exact hb2)
    rw [hc, hcl] at o2
    exact q v B' H' (x1.trans x2) o2 rv
  | er ce =>
    intro as' B' H' c y o hc
    obtain ⟨x2, o2⟩ := ok_back o1 hm y o (by rw [hc]; exact hb2)
    rw [hc, hcl] at o2
    exact q B' H' (x1.trans x2) o2
/-- what a body is to reach, its first m cells being cl' at the end -/
def PoC (m : Nat) (r : Res) (cl' : List Cl) : Po := { nx := fun s => r = .ok .non ∧ s.cl.take m = cl', rt := fun d c => r = .ok d ∧ c.take m = cl', bk := fun _ => False, ct := fun _ => False, ex := fun c s => r = .er c ∧ s.cl.take m = cl' }
def slC (N : List Str) (sls : List Sl) : List Sl := sls ++ List.replicate (N.length - sls.length) .u
theorem Ok.none {K : PySem.W.Frag} {as : List Addr} {B H : Hp} {σ : L2.St} {s : A} (h : Ok K as B H σ s) : Ok K as B H [] ⟨[], s.cl⟩ := ⟨h.sm, h.nd, h.ht, h.nb, h.cs, rfl, fun i z e => by simp at e⟩
theorem ok_startC {K : PySem.W.Frag} {as : List Addr} {N : List Str} {B H : Hp} {vs : List V} {cl : List Cl} (o : Ok K as B H (vs.map some) ⟨sls, cl⟩) (hl : sls.length ≤ N.length) : Ok K as B H (L2.start N vs) ⟨slC N sls, cl⟩ where
  sm := o.sm
  nd := o.nd
  ht := o.ht
  nb := o.nb
  cs := o.cs
  ln := by
    have := o.ln
    simp at this
    simp [L2.start, slC]
    omega
  sl := fun i z hz => by
    have ln := o.ln
    simp at ln
    have hz' : (sls ++ List.replicate (N.length - sls.length) .u)[i]? = some z := hz
    unfold L2.start
    by_cases hi : i < sls.length
    · rw [List.getElem?_append_left hi] at hz'
      rw [List.getElem?_append_left (by simp; omega)]
      exact o.sl i z hz'
    · rw [List.getElem?_append_right (by omega), List.getElem?_replicate] at hz'
      split at hz'
      · cases hz'; exact True.intro
      · cases hz'
end
section
variable {Pg : Program} {w : World} {K : PySem.W.Frag} {mg : Str → Option Value} {base : Heap} {x : Str} {st : Stmt} {k : Nat}
theorem fn_okC {qual : Str} {f : Addr} {fd : FuncData} {N ps : List Str} {m : Nat} {pre : List Sl → List Cl → Res → List Cl → Prop} (F : Fun K x qual st f fd) (S : FnScope N ps (defScope st)) (hb : Binds K fd ps []) (hm : mg x = some (.ref f)) (hlen : ∀ sls cl r cl', pre sls cl r cl' → sls.length = ps.length) (hN : ps.length ≤ N.length := by (show _ ≤ _; decide))
    (body : ∀ (cdv : Value) (A : Around) (outer : List Env) (s : Shared) (H : Hp) (E : XK), Cok (cxOf (L2.CX Pg w) Pg w K mg base N qual (defScope st) f cdv A outer s H E) (fun cls d _ H => E cls d H) k → ∀ sls cl r cl', cl.length = m → pre sls cl r cl' →
      JB (cxOf (L2.CX Pg w) Pg w K mg base N qual (defScope st) f cdv A outer s H E) (fun cls d _ H => E cls d H) (defBody st) ⟨slC N sls, cl⟩ (PoC m r cl')) : FnC Pg w K mg base x ps.length m (k + 1) pre where
  ex := ⟨f, fd, ps, rfl, F.okX S (fun vs H Q E h => by
      obtain ⟨as, B, sls, cl, r, cl', o, _, hp, _⟩ := h
      have ln := o.ln
      simp at ln
      rw [ln]
      exact hlen _ _ _ _ hp) (fun cdv A outer s H vs Q E hr h => by
      obtain ⟨as, B, sls, cl, r, cl', o, hml, hp, q⟩ := h
      refine ⟨_, pss_w, ?_⟩
      have C : Cok (cxOf (L2.CX Pg w) Pg w K mg base N qual (defScope st) f cdv A outer s H E) (fun cls d _ H => E cls d H) k := ⟨hr, takes_of rfl rfl rfl rfl, rfl, passes_of rfl, S.nd⟩
      refine body cdv A outer s H E C sls cl r cl' hml hp as B H _ (ok_startC o (by rw [hlen _ _ _ _ hp]; exact hN)) _ ⟨?_, ?_, ?_, ?_, ?_⟩
      · intro as' B' H' σ' s' y o' z
        obtain ⟨z', zc⟩ := z
        subst z'
        exact q .non as' B' H' s'.cl y o'.none zc .non
      · intro as' B' H' σ' s' v d y o' rv z
        obtain ⟨z', zc⟩ := z
        subst z'
        exact q v as' B' H' s'.cl y o'.none zc rv
      · intro as' B' H' σ' s' y o' z; exact z.elim
      · intro as' B' H' σ' s' y o' z; exact z.elim
      · intro as' B' H' σ' s' c y o' z
        obtain ⟨z', zc⟩ := z
        subst z'
        exact q as' B' H' s'.cl y o'.none zc), hm, F.kp, hb⟩
end
end DL
set_option Elab.async false
set_option linter.all false
set_option maxRecDepth 100000
set_option maxHeartbeats 4000000
set_option autoImplicit true
/-! DLl: comprehensions that change cells; calls without arguments; a pair turned round -/
namespace DL
open PySem PySem.Spec PyProof.Rows L2
def foldO {α γ : Type} (g : γ → α → γ) (o : γ → α → D) : γ → List α → List D
  | _, [] => []
  | b, a :: l => o b a :: foldO g o (g b a) l
theorem foldO_snoc {α γ : Type} (g : γ → α → γ) (o : γ → α → D) (a : α) : ∀ (l : List α) (b : γ), foldO g o b (l ++ [a]) = foldO g o b l ++ [o (l.foldl g b) a]
  | [], b => rfl
  | x :: l, b => by
    show o b x :: foldO g o (g b x) (l ++ [a]) = _
    rw [foldO_snoc g o a l (g b x)]
    rfl
theorem foldO_len {α γ : Type} (g : γ → α → γ) (o : γ → α → D) : ∀ (l : List α) (b : γ), (foldO g o b l).length = l.length
  | [], _ => rfl
  | _ :: l, b => by rw [foldO, List.length_cons, List.length_cons, foldO_len g o l]
section
variable {X : Cx} {W : WX} {k : Nat} {e a b c tg iter elt : Expr} {es rest tgs ifs : List Expr} {s s' s1 s2 s3 : A} {d d' d1 d2 d3 da db dc : D} {r : Res} {ds : List D} {xs ys : List D} {pos p2 p apos pos' px py pz np p1 p3 : Pos} {x y z n : Str} {scope : Scope} {own : List (Str × Nat)}
/-- [elt for x in l], the cells changed from item to item: b the state so far, S its cells, Q what holds of it -/
theorem lc_fold {α γ : Type} (i : Nat) (lst : List α) (b0 : γ) (g : γ → α → γ) (o : γ → α → D) (S : γ → List Cl) (Q : Nat → γ → Prop) {enc : α → D} (C : Cok X W k) (hi : JI X (.Name x px) iter s (lst.map enc) s1) (h0 : S b0 = s1.cl) (q0 : Q 0 b0)
    (hs : ∀ j a b, lst[j]? = some a → b = (lst.take j).foldl g b0 → Q j b → Q (j + 1) (g b a) ∧ Blk X scope fun Y => Cok Y WN k → JE Y WN elt ⟨s1.sl.set i (.d (enc a)), S b⟩ (.ok (o b a)) ⟨s1.sl.set i (.d (enc a)), S (g b a)⟩) (hlen : lst.length ≤ sizeLine := by assumption)
    (hblk : blkC X.N X.env.scope scope [(x, i)] = true := by kernel_rfl) (hn : i < s1.sl.length := by exact of_decide_eq_true rfl) (hNi : X.N[i]? = some x := by rfl) (hloc : Blk X scope fun Y => Loc Y.env.scope x := by first | exact fun _ _ _ _ _ => Or.inl rfl | exact fun _ _ _ _ _ => Or.inr rfl) (hfn : Blk X scope fun Y => Y.fn x = true ∨ Y.env.scope.names.lookup x = some .local := by first | exact fun _ _ _ _ _ => .inr rfl | exact fun _ _ _ _ _ => .inl rfl) :
    Lc X (.Name x px) iter elt [] scope [(x, i)] (gName i) s (foldO g o b0 lst) ⟨s1.sl, S (lst.foldl g b0)⟩ := by
  have hQ : ∀ j, j ≤ lst.length → Q j ((lst.take j).foldl g b0) := by
    intro j
    induction j with
    | zero => intro _; exact q0
    | succ j ih =>
      intro hj
      have e : lst[j]? = some lst[j] := List.getElem?_eq_getElem (by omega)
      have := (hs j _ _ e rfl (ih (by omega))).1
      rw [List.take_add_one, e, List.foldl_append]
      exact this
  have h := lc_mk (elt := elt) (ifs := []) hi (tgt_name (K := X.K) hn) (blkOk_by hblk) (Nat.zero_le _) (fun s0 H0 C0 cl0 fp0 => pg_name C.nd hNi (hloc s0 H0 C0 cl0 fp0) (hfn s0 H0 C0 cl0 fp0)) (fun j => foldO g o b0 (lst.take j)) (fun j => S ((lst.take j).foldl g b0)) rfl h0 (fun j hj => by
    rw [foldO_len, List.length_take]
    rw [List.length_map] at hj
    omega) (fun j d hd => by
    rw [List.getElem?_map] at hd
    cases q : lst[j]? with
    | none => rw [q] at hd; cases hd
    | some a =>
      rw [q] at hd
      have hd' : enc a = d := Option.some.inj hd
      subst hd'
      have hj : j < lst.length := (List.getElem?_eq_some_iff.mp q).1
      have st := (hs j a _ q rfl (hQ j (by omega))).2
      have e1 : lst.take (j + 1) = lst.take j ++ [a] := by rw [List.take_add_one, q]; rfl
      refine ⟨s1.sl.set i (.d (enc a)), true, ?_, rfl, fun _ => ⟨o ((lst.take j).foldl g b0) a, fun s0 H0 C0 cl0 fp0 => ?_, ?_⟩, fun z => nomatch z⟩
      · show (s1.sl.set i .u).set i (.d (enc a)) = _
        rw [List.set_set]
      · rw [e1, List.foldl_append]
        exact st s0 H0 C0 cl0 fp0 (C.blk s0 H0 C0 cl0 fp0)
      · rw [e1, foldO_snoc])
  rw [List.length_map, List.take_length] at h
  exact h
/-- f() -/
theorem je_call0 {j : Nat} {pre : List D → Res → Prop} (C : Cok X W k) (F : Fn X.prog X.w X.K X.mg X.base x 0 j pre) (hk : j ≤ k) (hp : pre [] r) (hg : Gl X x := by rfl) (hdb : (x == ("__debug__" : Str)) = false := by decide) : JE X W (.Call (.Name x p) [] [] pos) s r s := fun as B H σ ok Q q => by
  obtain ⟨f, fd, ps, hn, hf, hm, hkp, hb⟩ := F.ex
  have P : PE X (.Call (.Name x p) [] [] pos) (tCallS (spD X.K pre) (WE W) tNil) := ⟨fun pins s σ H Q I h => wpAny_Call_Name_kw (ld_glob I hg hm (PySem.W.callWith_K0 I.kIn hkp (run_fnS (us := []) hf (C.hr.mono hk) hb (passAt C.tk σ) I .nil h)) hdb)⟩
  refine wE_of P ?_
  refine ⟨B, [], r, ok.sm, .nil, hp, ?_⟩
  have up : ∀ {B' H'}, Ext [] B H [] B' H' → Same B' H' → Ext as B H as B' H' ∧ Ok X.K as B' H' σ s := fun {B' H'} y sm => by
    have sH : Same H H' := fun a o e => y.k a o (fun z => nomatch z) e
    exact ⟨⟨y.b, fun a o _ e => sH _ _ e, fun a h1 h2 _ => y.n a h1 h2 (fun z => nomatch z), ⟨[], by simp, fun _ z => nomatch z⟩, y.t⟩,
      ⟨sm, ok.nd, fun a ha => y.t a (ok.ht a ha), fun j a c h1 h2 h3 => y.n a (ok.nb j a c h1 h2 h3) (ok.ht a (List.mem_of_getElem? h1)) (fun z => nomatch z), ⟨ok.cs.1, fun j a c h1 h2 => (ok.cs.2 j a c h1 h2).mono y.b ⟨[], by simp⟩ fun _ u e => sH _ _ e⟩, ok.ln, fun i z hz => (ok.sl i z hz).mono y.b ⟨[], by simp⟩⟩⟩
  cases r with
  | ok d =>
    intro v B' H' y sm rv
    obtain ⟨x2, o2⟩ := up y sm
    exact q v B' H' x2 o2 rv
  | er c =>
    intro B' H' y sm
    obtain ⟨x2, o2⟩ := up y sm
    exact q B' H' x2 o2
/-! ### a pair turned round -/
theorem applied_back {prog : Program} {w : World} {A : Around} {E : Value → Shared → Prop} {s : Shared} {sl : Addr} {vs : Value} {Q : Int × Int × Nat → Shared → Prop} (hs : s.heap.IsSliceOf sl .none .none vs) (ps : IsPart vs (some (-1)))
    (h : Q (1, -1, 2) s) : wpAny (model prog w) A (Builtin.Slice.sliceApplied (.ref sl) (pure (2 : Int))) Q E s := by
  obtain ⟨os, hos, hcs, hds⟩ := id hs
  unfold Builtin.Slice.sliceApplied Builtin.Slice.sliceFields
  refine wpAny_bind (wpAny_bind (wpAny_field hos hds (x := .none) rfl (wpAny_bind (wpAny_field hos hds (x := .none) rfl (wpAny_bind (wpAny_field hos hds (x := vs) rfl (wpAny_pure (wpAny_bind (HT.slicePart_ ps ?_)))))))))
  show wpAny _ _ (if ((-1 : Int) == 0) = true then _ else _) _ _ s
  rw [if_neg (by decide)]
  exact wpAny_bind (HT.slicePart_ .none (wpAny_bind (HT.slicePart_ .none (wpAny_bind (wpAny_pure (wpAny_pure h))))))
theorem item_back {prog : Program} {w : World} {A : Around} {E : Value → Shared → Prop} {s : Shared} {t sl : Addr} {u1 u2 vs : Value} {Q : Value → Shared → Prop} (ht : IsTup s.heap t #[u1, u2]) (hs : s.heap.IsSliceOf sl .none .none vs) (ps : IsPart vs (some (-1)))
    (h : Q (.ref s.heap.objs.size) { s with heap := s.heap.push { cls := .type "tuple", data := .seq #[u2, u1] } }) : wpAny (model prog w) A (getItem (.ref t) (.ref sl)) Q E s := by
  have size : sizeOk (.seq #[u2, u1]) := show (2 : Nat) ≤ sizeLine by rw [sizeLine_eq]; decide
  have tyS : s.TypeIs (.ref sl) "slice" := by
    obtain ⟨os, hos, hcs, _⟩ := id hs
    exact ⟨os, hos, hcs⟩
  unfold getItem
  try with_reducible refine wpAny_holding ?_
  first | refine wpAny_bind (wpAny_pure ?_) | skip
  refine wpAny_bind (wpAny_sequenceKey ht.typeIs (by decide) (wpAny_bind (wpAny_callSpecial?_slot (name := Str.ofString "__getitem__") ht.typeIs PyProof.Rows.slot_tuple_getitem
    (wpAny_call_entry PyProof.Rows.slot_tuple_getitem ht.typeIs PyProof.Rows.entry_tuple_getitem ?_ (PyProof.Rows.args_tuple_getitem _ _)))))
  show wpAny _ _ (Builtin.Tuple.tupleItemsOf (.ref t) >>= _) _ _ s
  refine wpAny_bind (tupleItemsOf_ ht (wpAny_bind (wpAny_typeOf tyS ?_)))
  rw [if_pos (by decide)]
  refine wpAny_bind (applied_back hs ps ?_)
  show wpAny _ _ (if ((1 : Int) == 0 && (-1 : Int) == 1 && (2 : Nat) == 2) = true then _ else _) _ _ s
  rw [if_neg (by decide)]
  first
    | exact wpAny_bind (m := Builtin.Tuple.tupleExact _) (wpAny_newObj_type (wpAny_pure ⟨_, rfl, wpAny_pure h⟩) size)
    | exact wpAny_bind (m := Builtin.Tuple.tupleExact _) (wpAny_newObj_type (wpAny_bind (wpAny_pure (wpAny_pure ⟨_, rfl, wpAny_pure h⟩))) size)
    | exact wpAny_bind (wpAny_bind (m := Builtin.Tuple.tupleExact _) (wpAny_newObj_type (wpAny_pure (wpAny_pure ⟨_, rfl, wpAny_pure h⟩)) size))
    | exact wpAny_bind (wpAny_bind (m := Builtin.Tuple.tupleExact _) (wpAny_newObj_type (wpAny_pure ⟨_, rfl, wpAny_pure h⟩) size))
def tBack (K : PySem.W.Frag) (te : TE) : TE := fun σ H Q => te σ H fun y H1 => ∃ a v1 v2, y = .ref a ∧ SqT K H1 a [v1, v2] ∧ ∀ p, H1 p = none → Q (.ref p) (upd H1 p (.tup [v2, v1]))
theorem pe_back {te : TE} {q : Nat} (he : PE X e te) : PE X (.Subscript e (.Slice none none (some (.UnaryOp .USub (.Constant (.int 1) q p1) p2)) p3) pos) (tBack X.K te) := by
  refine ⟨fun pins s σ H Q I h => Subscript_ (thn (he.run pins s σ H _ I h) fun v t ⟨y, H1, I1, r1, a, v1, v2, ey, hx, q1⟩ => ?_)⟩
  subst ey
  cases r1
  refine wpAny_Slice (thn (po_none.run pins t σ H1 (fun o H2 => o = none ∧ H2 = H1) I1 ⟨rfl, rfl⟩) fun vl t2 ⟨l, H2, I2, pl, el, e2⟩ => ?_)
  subst el e2
  refine thn (po_none.run pins t2 σ H2 (fun o H3 => o = none ∧ H3 = H2) I2 ⟨rfl, rfl⟩) fun vu t3 ⟨u, H3, I3, pu, eu, e3⟩ => ?_
  subst eu e3
  have minus : PO X (some (.UnaryOp .USub (.Constant (.int 1) q p1) p2)) (tPart (tUn (rU fun i => .int (-i)) (tC (.int 1)))) := po_some (pe_un un_neg pe_int)
  refine thn (minus.run pins t3 σ H3 (fun o H4 => o = some (-1) ∧ H4 = H3) I3 ⟨1, rfl, -1, rfl, rfl, rfl⟩) fun vs t4 ⟨o, H4, I4, ps, eo, e4⟩ => ?_
  subst eo e4
  cases pl
  cases pu
  have I5 : Inv X pins σ H4 { t4 with heap := t4.heap.push { cls := .type "slice", data := .fields #[.none, .none, vs] } } := I4.kept (t' := t4.toks) fun b ob z => Heap.get?_push_of_some _ z
  obtain ⟨its, rv, ht, hz⟩ := I5.tuple hx
  obtain ⟨u1, u2, rfl, w1, w2⟩ := vals2 rv
  show wpAny (model X.prog X.w) X.A (subscriptTail e (.Slice none none (some (.UnaryOp .USub (.Constant (.int 1) q p1) p2)) p3) (.ref a) (.ref t4.heap.objs.size)) (EP X pins σ Q) X.xe { t4 with heap := t4.heap.push { cls := .type "slice", data := .fields #[.none, .none, vs] } }
  refine tail_any (ops := [.ref a, .ref t4.heap.objs.size]) ht.typeIs PyProof.Rows.slot_tuple_getitem.lookup ?_ (by with_unfolding_all rfl)
  refine item_back ht (Heap.IsSliceOf.new _ _ _ vs) ps ?_
  exact ⟨.ref _, _, I5.laid (t' := t4.toks) (o := .tup [v2, v1]) (fun b ob z => Heap.get?_push_of_some _ z) (Nat.le_refl _) ⟨by show 2 ≤ sizeLine; rw [sizeLine_eq]; decide, _, .cons w2 (.cons w1 .nil), IsTup.new _ _⟩, rfl, q1 _ (I5.hok.fresh (Nat.le_refl _))⟩
/-- (a, b)[::-1] -/
theorem je_back {q : Nat} (he : JE X W e s (.ok (.tup [d1, d2])) s1) : JE X W (.Subscript e (.Slice none none (some (.UnaryOp .USub (.Constant (.int 1) q p1) p2)) p3) pos) s (.ok (.tup [d2, d1])) s1 :=
  je_of (pe_back pe_w) fun as B H σ ok Q q => Ok.one he ok fun x B1 H1 e1 o1 r1 => by
    cases r1 with
    | tup hs hr =>
      cases hr with
      | cons r1 hr =>
        cases hr with
        | cons r2 hr =>
          cases hr
          refine ⟨_, _, _, rfl, same_t o1.sm hs, fun p hp => ?_⟩
          obtain ⟨o3, e3⟩ := o1.new (o := .tup _) hp
          exact q _ _ _ (e1.trans e3) o3 (.tup (.inl (.inl upd_same)) (.cons (r2.mono e3.b) (.cons (r1.mono e3.b) .nil)))
/-- a, b = x, y -/
theorem js_par (i j : Nat) {P : Po} {W : WX} {l : List Sl} {cl : List Cl} {pt pt2 : Pos} {kt k2 : Nat} (C : Cok X W k) (h : JD X [a, b] s [d1, d2] s1) (hP : P.nx ⟨l, cl⟩) (hl : (s1.sl.set i (.d d1)).set j (.d d2) = l := by (first | (dsimp only [List.set, List.length_cons, List.length_nil, List.cons_append, List.nil_append, Nat.reduceAdd]; done) | (dsimp only [List.set, List.length_cons, List.length_nil, List.cons_append, List.nil_append, Nat.reduceAdd]; exact rfl) | exact rfl)) (hcl : s1.cl = cl := by (first | (dsimp only [List.set, List.length_cons, List.length_nil, List.cons_append, List.nil_append, Nat.reduceAdd]; done) | (dsimp only [List.set, List.length_cons, List.length_nil, List.cons_append, List.nil_append, Nat.reduceAdd]; exact rfl) | exact rfl))
    (hi : X.N[i]? = some x := by rfl) (hj : X.N[j]? = some y := by rfl) (hij : i ≠ j := by decide) (hx : X.env.scope.names.lookup x = some .local := by rfl) (hy : X.env.scope.names.lookup y = some .local := by rfl) (hni : i < s1.sl.length := by exact of_decide_eq_true rfl) (hnj : j < s1.sl.length := by exact of_decide_eq_true rfl)
    (hw : swappedStores [.Tuple [.Name x px, .Name y py] kt pt] (.Tuple [a, b] k2 pt2) X.env = pure (some [x, y]) := by rfl) (hs : swapsWithSole [.Tuple [.Name x px, .Name y py] kt pt] (.Tuple [a, b] k2 pt2) pos.line X.env = pure false := by rfl) :
    JS X W (.Assign [.Tuple [.Name x px, .Name y py] kt pt] (.Tuple [a, b] k2 pt2) pos) s P :=
  js_of (ps_par C.calm C.nd hi hj hij hx hy pa_w hw hs) fun as B H σ ok Dn f => h as B H σ ok _ fun vs B1 H1 x1 o1 r => by
    cases r with
    | cons r1 r =>
      cases r with
      | cons r2 r =>
        cases r
        have o2 := o1.store (i := i) (x := .d d1) hni ⟨_, rfl, r1⟩
        have o3 := o2.store (i := j) (x := .d d2) (by rw [List.length_set]; exact hnj) ⟨_, rfl, r2⟩
        dsimp only at o3
        rw [hl] at o3
        rw [← hcl] at hP
        exact ⟨_, _, rfl, f.nx as B1 H1 _ _ x1 o3 hP⟩
end
end DL
set_option Elab.async false
set_option linter.all false
set_option maxRecDepth 100000
set_option maxHeartbeats 4000000
set_option autoImplicit true
/-! DLm: cells that a block has made are forgotten at its end -/
namespace DL
open PySem PySem.Spec PyProof.Rows L2
structure Cut (n : Nat) (s t : A) : Prop where
  sl : t.sl = s.sl
  cl : t.cl = s.cl.take n
  bs : t.sl.all (·.below n) = true
  bc : t.cl.all (·.below n) = true
theorem Ok.cutTo {K : PySem.W.Frag} {as ns : List Addr} {B H : Hp} {σ : L2.St} {s t : A} (o : Ok K (as ++ ns) B H σ s) (c : Cut as.length s t) : Ok K as B H σ t := by
  have hl := o.cs.1
  rw [List.length_append] at hl
  have same : ∀ j, j < as.length → as[j]? = (as ++ ns)[j]? := fun j hj => by rw [List.getElem?_append_left hj]
  have at_ : ∀ {j : Nat} {a : Addr} {d : Cl}, as[j]? = some a → t.cl[j]? = some d → (as ++ ns)[j]? = some a ∧ s.cl[j]? = some d := fun {j a d} h1 h2 => by
    have hj := (List.getElem?_eq_some_iff.mp h1).1
    rw [c.cl, List.getElem?_take, if_pos hj] at h2
    exact ⟨by rw [← same j hj]; exact h1, h2⟩
  refine ⟨o.sm, o.nd.sublist (List.sublist_append_left _ _), fun a ha => o.ht a (List.mem_append_left _ ha), fun j a d h1 h2 h3 => ?_, ⟨?_, fun j a d h1 h2 => ?_⟩, by rw [c.sl]; exact o.ln, fun i x hx => ?_⟩
  · obtain ⟨e1, e2⟩ := at_ h1 h2
    exact o.nb j a d e1 e2 h3
  · rw [c.cl, List.length_take]
    omega
  · obtain ⟨e1, e2⟩ := at_ h1 h2
    exact (o.cs.2 j a d e1 e2).cut (List.all_eq_true.mp c.bc d (List.mem_of_getElem? h2)) same
  · have hb := List.all_eq_true.mp c.bs x (List.mem_of_getElem? hx)
    rw [c.sl] at hx
    exact (o.sl i x hx).cut hb same
section
variable {X : Cx} {W : WX} {sts : List Stmt} {s t : A} {P : Po}
/-- what holds at a block's end holds without the cells that it made -/
def dropP (n : Nat) (P : Po) : Po := { P with nx := fun s2 => ∃ s3, Cut n s2 s3 ∧ P.nx s3, ct := fun s2 => ∃ s3, Cut n s2 s3 ∧ P.ct s3 }
theorem jb_drop (h : JB X W sts s (dropP s.cl.length P)) : JB X W sts s P := fun as B H σ ok Dn f => by
  have hl := ok.cs.1
  have back : ∀ {as' B' H'}, Ext as B H as' B' H' → Ext as B H as B' H' := fun {as' B' H'} x => ⟨x.b, x.k, x.n, ⟨[], by simp, fun _ z => nomatch z⟩, x.t⟩
  refine h as B H σ ok Dn ⟨fun as' B' H' σ' s' x o ⟨s3, c, z⟩ => ?_, f.rt, f.bk, fun as' B' H' σ' s' x o ⟨s3, c, z⟩ => ?_, f.ex⟩
  · obtain ⟨ns, e, _⟩ := x.l
    rw [← hl] at c
    rw [e] at o
    exact f.nx as B' H' σ' s3 (back x) (o.cutTo c) z
  · obtain ⟨ns, e, _⟩ := x.l
    rw [← hl] at c
    rw [e] at o
    exact f.ct as B' H' σ' s3 (back x) (o.cutTo c) z
theorem jb_finD {n : Nat} (t : A) (hN : P.nx t) (h1 : s.cl.take n = t.cl := by rfl) (h : Les s.sl t.sl := by (repeat (first | exact Les.nil | apply Les.eq | apply Les.u))) (hb : t.sl.all (·.below n) = true := by rfl) (hc : t.cl.all (·.below n) = true := by rfl) : JB X W [] s (dropP n P) :=
  jb_end (l := t.sl) h ⟨t, ⟨rfl, h1.symm, hb, hc⟩, hN⟩
/-- for over a list that is a cell and stays as it is -/
theorem js_forC {tg : Expr} {x : Str} {p pos : Pos} {body : List Stmt} {ds : List D} {k : Nat} (i j : Nat) (I : Nat → A → Prop) (C : Cok X W k) (h0 : I 0 s) (keep : ∀ n s', I n s' → s'.cl[j]? = some (.lst ds)) (hs : ∀ n d s', ds[n]? = some d → I n s' → JG X tg d s' fun s2 => JB X W body s2 { P with nx := I (n + 1), ct := I (n + 1), bk := P.nx }) (hd : ∀ s', I ds.length s' → P.nx s')
    (hi : s.sl[i]? = some (.c j) := by rfl) (hN : X.N[i]? = some x := by rfl) (hv : Vis X.env.scope x := by first | exact Or.inl rfl | exact Or.inr (Or.inl rfl) | exact Or.inr (Or.inr rfl)) (hd1 : (x == ("__debug__" : Str)) = false := by decide) (hd2 : (x == ("__classdict__" : Str)) = false := by decide)
    (hf : ∀ z, foldedSetIterable (.Name x p) X.env z = pure z := by intro _; rfl) : JS X W (.For tg (.Name x p) body [] pos) s P :=
  js_of (ps_for C.hp C.calm (pi_list (pe_var hN hv hd1 hd2)) pg_w pss_w hf) fun as B H σ ok Dn f => by
    obtain ⟨a, v1, ha⟩ := cell_of ok hi
    obtain ⟨vs0, hv0, _⟩ := ok.cs.2 j a _ ha (keep 0 s h0)
    refine ⟨.ref a, v1, a, rfl, ⟨vs0, .inl (.inl hv0)⟩, fun n m σ' H' => m = ds.length - n ∧ n ≤ ds.length ∧ ∃ as' B' s', Ext as B H as' B' H' ∧ Ok X.K as' B' H' σ' s' ∧ I n s', ⟨ds.length, by simp, Nat.zero_le _, as, B, s, Ext.refl .., ok, h0⟩, ?_⟩
    rintro n m σ' H' ⟨rfl, hle, as', B', s', x2, o2, hI⟩
    obtain ⟨vs, hv', hr⟩ : ∃ vs, H' a = some (.lst vs) ∧ Reps X.K B' vs ds := by
      obtain ⟨ns, e, _⟩ := x2.l
      have ha' : as'[j]? = some a := by rw [e, List.getElem?_append_left (List.getElem?_eq_some_iff.mp ha).1]; exact ha
      exact o2.cs.2 j a _ ha' (keep n s' hI)
    have hl := hr.length
    by_cases hlt : n < ds.length
    · refine .inr ⟨⟨vs, vs[n]'(by omega), .inl (.inl hv'), List.getElem?_eq_getElem _⟩, fun σ2 H2 => ∃ as2 B2 s2, Ext as' B' H' as2 B2 H2 ∧ Ok X.K as2 B2 H2 σ2 s2 ∧ I (n + 1) s2, fun σ2 H2 ⟨as2, B2, s2, x3, o3, h3⟩ => ⟨ds.length - (n + 1), by omega, rfl, hlt, as2, B2, s2, x2.trans x3, o3, h3⟩, fun v H2 y => ?_⟩
      obtain ⟨rfl, e2⟩ := y
      obtain ⟨d, hd', r⟩ := hr.getV (e2 vs (.inl (.inl hv')))
      refine hs n d s' hd' hI as' B' H2 σ' v o2 r _ fun σ3 s3 o3 h3 => ?_
      exact h3 as' B' H2 σ3 o3 _ ⟨fun as4 B4 H4 σ4 s4 x4 o4 z => ⟨as4, B4, s4, x4, o4, z⟩, fun as4 B4 H4 σ4 s4 v d x4 => f.rt as4 B4 H4 σ4 s4 v d (x2.trans x4), fun as4 B4 H4 σ4 s4 x4 => f.nx as4 B4 H4 σ4 s4 (x2.trans x4),
        fun as4 B4 H4 σ4 s4 x4 o4 z => ⟨as4, B4, s4, x4, o4, z⟩, fun as4 B4 H4 σ4 s4 c x4 => f.ex as4 B4 H4 σ4 s4 c (x2.trans x4)⟩
    · have e : n = ds.length := by omega
      subst e
      exact .inl ⟨⟨vs, .inl (.inl hv'), Nat.le_of_eq hl⟩, f.nx as' B' H' σ' s' x2 o2 (hd s' hI)⟩
end
section
variable {X : Cx} {W : WX} {k : Nat} {e a b c tg iter elt : Expr} {es rest tgs ifs : List Expr} {st : Stmt} {sts body orelse : List Stmt} {s s' s1 s2 s3 : A} {P : Po} {d d' d1 d2 d3 da db dc : D} {r : Res} {ds : List D} {xs ys : List D} {pos p2 p apos pos' px py pz : Pos} {x y z : Str} {β β1 β2 : Bool} {op : CmpOp} {l : List Sl} {scope : Scope} {own : List (Str × Nat)} {R : A → Prop} {q : Nat}
/-- a list taken apart -/
theorem jg_lst {R : A → Prop} {j : Nat} {n : Nat} (C : X.calm = true) (h : JGs X es ds s R) (hl : ds.length = n) (hn : (assignEach es X.env).length = n := by rfl) (hst : (assignEach es X.env).findIdx? (·.1) = none := by rfl) : JG X (.Tuple es j pos) (.lst ds) s R :=
  fun as B H σ v ok r Q q => wG_of (pg_unl C pgs_w hn hst) (by
    cases r with
    | lst ha hv => exact ⟨_, _, rfl, .inl (.inl (ok.sm _ _ ha)), hv.length.trans hl, h as B H σ _ ok hv Q q⟩)
theorem jg_l3 (i j m : Nat) (C : Cok X W k) {cl : List Cl} (hR : R ⟨l, cl⟩) (hl : ((s.sl.set i (.d d1)).set j (.d d2)).set m (.d d3) = l := by (first | (dsimp only [List.set, List.length_cons, List.length_nil, List.cons_append, List.nil_append, Nat.reduceAdd]; done) | (dsimp only [List.set, List.length_cons, List.length_nil, List.cons_append, List.nil_append, Nat.reduceAdd]; exact rfl) | exact rfl)) (hcl : s.cl = cl := by (first | (dsimp only [List.set, List.length_cons, List.length_nil, List.cons_append, List.nil_append, Nat.reduceAdd]; done) | (dsimp only [List.set, List.length_cons, List.length_nil, List.cons_append, List.nil_append, Nat.reduceAdd]; exact rfl) | exact rfl)) (hi : X.N[i]? = some x := by rfl) (hj : X.N[j]? = some y := by rfl) (hm : X.N[m]? = some z := by rfl) (hx : Loc X.env.scope x := by first | exact .inl rfl | exact .inr rfl) (hy : Loc X.env.scope y := by first | exact .inl rfl | exact .inr rfl) (hz : Loc X.env.scope z := by first | exact .inl rfl | exact .inr rfl)
    (hn : i < s.sl.length := by exact of_decide_eq_true rfl) (hn2 : j < s.sl.length := by exact of_decide_eq_true rfl) (hn3 : m < s.sl.length := by exact of_decide_eq_true rfl) (hf : X.fn x = true ∨ X.env.scope.names.lookup x = some .local := by first | exact .inl rfl | exact .inr rfl) (hf2 : X.fn y = true ∨ X.env.scope.names.lookup y = some .local := by first | exact .inl rfl | exact .inr rfl) (hf3 : X.fn z = true ∨ X.env.scope.names.lookup z = some .local := by first | exact .inl rfl | exact .inr rfl)
    (h0 : (assignEach [Expr.Name x px, Expr.Name y py, Expr.Name z pz] X.env).map (·.2) = assign (.Name x px) X.env :: (assignEach [Expr.Name y py, Expr.Name z pz] X.env).map (·.2) := by rfl)
    (h1 : (assignEach [Expr.Name y py, Expr.Name z pz] X.env).map (·.2) = assign (.Name y py) X.env :: (assignEach [Expr.Name z pz] X.env).map (·.2) := by rfl) (h2 : (assignEach [Expr.Name z pz] X.env).map (·.2) = assign (.Name z pz) X.env :: (assignEach [] X.env).map (·.2) := by rfl)
    (h3 : (assignEach [Expr.Name x px, Expr.Name y py, Expr.Name z pz] X.env).length = 3 := by rfl) (h4 : (assignEach [Expr.Name x px, Expr.Name y py, Expr.Name z pz] X.env).findIdx? (·.1) = none := by rfl) : JG X (.Tuple [.Name x px, .Name y py, .Name z pz] q pos) (.lst [d1, d2, d3]) s R :=
  jg_lst C.calm (jgs_cons (jg_name i C.nd (jgs_cons (jg_name j C.nd (jgs_cons (jg_name m C.nd (jgs_nil (by rw [← hl, ← hcl] at hR; exact hR)) rfl rfl hm hz (by rw [List.length_set, List.length_set]; exact hn3) hf3) h2) rfl rfl hj hy (by rw [List.length_set]; exact hn2) hf2) h1) rfl rfl hi hx hn hf) h0) rfl h3 h4
/-- js_fold over a list that is a cell: the cells of S b hold it at j -/
theorem js_foldC {α γ : Type} {R : A → Prop} (i j : Nat) (lst : List α) (f : γ → α → γ) (b0 : γ) (S : γ → A) (Q : Nat → γ → Prop) {enc : α → D} (C : Cok X W k) (q0 : Q 0 b0) (keep : ∀ b, (S b).cl[j]? = some (.lst (lst.map enc)))
    (hs : ∀ n a b, (ha : lst[n]? = some a) → b = (lst.take n).foldl f b0 → Q n b → JG X tg (enc a) (S b) fun s2 => JB X W body s2 { P with nx := fun s3 => s3 = S (f b a) ∧ Q (n + 1) (f b a), ct := fun s3 => s3 = S (f b a) ∧ Q (n + 1) (f b a), bk := P.nx })
    (hd : Q lst.length (lst.foldl f b0) → P.nx (S (lst.foldl f b0))) (h1 : s.cl = (S b0).cl := by rfl) (h2 : Les s.sl (S b0).sl := by (repeat (first | exact Les.nil | apply Les.eq | apply Les.u)))
    (hi : (S b0).sl[i]? = some (.c j) := by rfl) (hN : X.N[i]? = some x := by rfl) (hv : Vis X.env.scope x := by first | exact Or.inl rfl | exact Or.inr (Or.inl rfl) | exact Or.inr (Or.inr rfl)) (hd1 : (x == ("__debug__" : Str)) = false := by decide) (hd2 : (x == ("__classdict__" : Str)) = false := by decide)
    (hf : ∀ z, foldedSetIterable (.Name x p) X.env z = pure z := by intro _; rfl) : JS X W (.For tg (.Name x p) body [] pos) s P := by
  refine js_le ⟨h1, h2⟩ (js_forC (ds := lst.map enc) i j (fun n s' => s' = S ((lst.take n).foldl f b0) ∧ Q n ((lst.take n).foldl f b0)) C ⟨rfl, q0⟩ (fun n s' h => by rw [h.1]; exact keep _) (fun n d s' hd' h => ?_) (fun s' h => ?_) hi hN hv hd1 hd2 hf)
  · obtain ⟨rfl, hq⟩ := h
    rw [List.getElem?_map] at hd'
    cases e : lst[n]? with
    | none => rw [e] at hd'; cases hd'
    | some a =>
      rw [e] at hd'
      have hd' : enc a = d := Option.some.inj hd'
      subst hd'
      have g := hs n a _ e rfl hq
      have e2 : (lst.take (n + 1)).foldl f b0 = f ((lst.take n).foldl f b0) a := by
        rw [List.take_add_one, e, List.foldl_append]
        rfl
      rw [e2]
      exact g
  · obtain ⟨rfl, hq⟩ := h
    rw [List.length_map, List.take_length] at hq ⊢
    exact hd hq
end
end DL
set_option Elab.async false
set_option linter.all false
set_option maxRecDepth 100000
set_option maxHeartbeats 4000000
set_option autoImplicit true
/-! DLn: instances: attributes, methods, making -/
namespace DL
open PySem PySem.Spec PyProof.Rows L2
/-! ### attributes by name -/
def putS (f : Str) (y : Sl) : List (Str × Sl) → List (Str × Sl)
  | [] => [(f, y)]
  | (g, w) :: r => if g = f then (g, y) :: r else (g, w) :: putS f y r
section
variable {K : PySem.W.Frag} {B : Hp} {as : List Addr}
/-- attributes as they are told -/
def FsOk (K : PySem.W.Frag) (B : Hp) (as : List Addr) (gs : List (Str × V)) (fs : List (Str × Sl)) : Prop := gs.map (·.1) = fs.map (·.1) ∧ ∀ (i : Nat) (x : Sl), (fs.map (·.2))[i]? = some x → SlOk K B as (gs.map (·.2))[i]? x
theorem FsOk.tail {g : Str × V} {gs : List (Str × V)} {f : Str × Sl} {fs : List (Str × Sl)} (h : FsOk K B as (g :: gs) (f :: fs)) : g.1 = f.1 ∧ SlOk K B as (some g.2) f.2 ∧ FsOk K B as gs fs := by
  obtain ⟨h1, h2⟩ := h
  rw [List.map_cons, List.map_cons] at h1
  injection h1 with e1 e2
  exact ⟨e1, h2 0 f.2 rfl, e2, fun i x hx => h2 (i + 1) x hx⟩
theorem FsOk.cons {g : Str × V} {gs : List (Str × V)} {f : Str × Sl} {fs : List (Str × Sl)} (e : g.1 = f.1) (h1 : SlOk K B as (some g.2) f.2) (h : FsOk K B as gs fs) : FsOk K B as (g :: gs) (f :: fs) := by
  refine ⟨by rw [List.map_cons, List.map_cons, e, h.1], fun i x hx => ?_⟩
  cases i with
  | zero =>
    have hx : some f.2 = some x := hx
    cases hx
    exact h1
  | succ i => exact h.2 i x hx
theorem FsOk.get {f : Str} {x : Sl} : ∀ {fs : List (Str × Sl)} {gs : List (Str × V)}, FsOk K B as gs fs → fs.lookup f = some x → ∃ v, gs.lookup f = some v ∧ SlOk K B as (some v) x
  | [], gs, _, e => by cases e
  | _ :: _, [], h, _ => by have := h.1; simp at this
  | (k, y) :: fs, (k2, v) :: gs, h, e => by
    obtain ⟨e1, h1, h2⟩ := h.tail
    have e1 : k2 = k := e1
    subst e1
    by_cases q : f = k2
    · have hb : (f == k2) = true := beq_iff_eq.mpr q
      simp only [List.lookup, hb] at e ⊢
      cases e
      exact ⟨v, rfl, h1⟩
    · have hb : (f == k2) = false := beq_eq_false_iff_ne.mpr q
      simp only [List.lookup, hb] at e ⊢
      exact FsOk.get h2 e
theorem FsOk.no {f : Str} : ∀ {fs : List (Str × Sl)} {gs : List (Str × V)}, FsOk K B as gs fs → fs.lookup f = none → gs.lookup f = none
  | [], [], _, _ => rfl
  | [], _ :: _, h, _ => by have := h.1; simp at this
  | _ :: _, [], h, _ => rfl
  | (k, y) :: fs, (k2, v) :: gs, h, e => by
    obtain ⟨e1, h1, h2⟩ := h.tail
    have e1 : k2 = k := e1
    subst e1
    by_cases q : f = k2
    · have hb : (f == k2) = true := beq_iff_eq.mpr q
      simp only [List.lookup, hb] at e
      cases e
    · have hb : (f == k2) = false := beq_eq_false_iff_ne.mpr q
      simp only [List.lookup, hb] at e ⊢
      exact FsOk.no h2 e
theorem FsOk.put {f : Str} {v : V} {x : Sl} (r : SlOk K B as (some v) x) : ∀ {fs : List (Str × Sl)} {gs : List (Str × V)}, FsOk K B as gs fs → FsOk K B as (putF f v gs) (putS f x fs)
  | [], [], _ => FsOk.cons rfl r ⟨rfl, fun i x e => by simp at e⟩
  | [], _ :: _, h => by have := h.1; simp at this
  | _ :: _, [], h => by have := h.1; simp at this
  | (k, y) :: fs, (k2, w) :: gs, h => by
    obtain ⟨e1, h1, h2⟩ := h.tail
    have e1 : k2 = k := e1
    subst e1
    unfold putF putS
    by_cases q : k2 = f
    · rw [if_pos q, if_pos q]
      exact FsOk.cons rfl r h2
    · rw [if_neg q, if_neg q]
      exact FsOk.cons rfl h1 (FsOk.put r h2)
theorem FsOk.tell {f : Str} {x : Sl} : ∀ {fs : List (Str × Sl)} {gs : List (Str × V)}, FsOk K B as gs fs → (∀ v, gs.lookup f = some v → SlOk K B as (some v) x) → (fs.lookup f).isSome = true → FsOk K B as gs (putS f x fs)
  | [], gs, _, _, e => by cases e
  | _ :: _, [], h, _, _ => by have := h.1; simp at this
  | (k, y) :: fs, (k2, w) :: gs, h, r, e => by
    obtain ⟨e1, h1, h2⟩ := h.tail
    have e1 : k2 = k := e1
    subst e1
    unfold putS
    by_cases q : k2 = f
    · have hb : (f == k2) = true := beq_iff_eq.mpr q.symm
      rw [if_pos q]
      exact FsOk.cons rfl (r w (by simp only [List.lookup, hb])) h2
    · have hb : (f == k2) = false := beq_eq_false_iff_ne.mpr (Ne.symm q)
      rw [if_neg q]
      simp only [List.lookup, hb] at e r
      exact FsOk.cons rfl h1 (FsOk.tell h2 r e)
theorem FsOk.len {fs : List (Str × Sl)} {gs : List (Str × V)} (h : FsOk K B as gs fs) : gs.length = fs.length := by
  have := congrArg List.length h.1
  rwa [List.length_map, List.length_map] at this
theorem ins_of {H : Hp} {σ : L2.St} {s : A} {i j : Nat} {C : Addr} {fs : List (Str × Sl)} (ok : Ok K as B H σ s) (hi : s.sl[i]? = some (.c j)) (hc : s.cl[j]? = some (.ins C fs)) : ∃ a dx gs, σ[i]? = some (some (.ref a)) ∧ as[j]? = some a ∧ H a = some (.ins C dx gs) ∧ FsOk K B as gs fs := by
  obtain ⟨a, v1, ha⟩ := cell_of ok hi
  obtain ⟨dx, gs, h1, h2, h3⟩ := ok.cs.2 j a _ ha hc
  exact ⟨a, dx, gs, v1, ha, h1, h2, h3⟩
end
section
variable {X : Cx} {W : WX} {k : Nat} {e a b c o : Expr} {es : List Expr} {sts : List Stmt} {s s' s1 s2 s3 : A} {P : Po} {d da db : D} {r : Res} {ds : List D} {xs ys : List D} {sls : List Sl} {pos p2 p apos pos' py : Pos} {x y f : Str} {β : Bool} {l : List Sl} {cl : List Cl} {C : Addr} {fs : List (Str × Sl)}
/-- o.f, a value -/
theorem je_fld (i : Nat) {j : Nat} (c : Cls X.K C) (n : NoAttr X.K C f) (hi : s.sl[i]? = some (.c j) := by rfl) (hc : s.cl[j]? = some (.ins C fs) := by rfl) (hf : fs.lookup f = some (.d d) := by rfl) (hN : X.N[i]? = some x := by rfl) (hv : Vis X.env.scope x := by first | exact Or.inl rfl | exact Or.inr (Or.inl rfl) | exact Or.inr (Or.inr rfl)) (hd1 : (x == ("__debug__" : Str)) = false := by decide) (hd2 : (x == ("__classdict__" : Str)) = false := by decide)
    (hb : attributeBase (.Name x p2) f X.env (eval (.Name x p2) X.env) = eval (.Name x p2) X.env := by rfl) : JE X W (.Attribute (.Name x p2) f pos) s (.ok d) s :=
  je_of (pe_fld (pe_var hN hv hd1 hd2) hb) fun as B H σ ok Q q => by
    obtain ⟨a, dx, gs, v1, _, hH, hg⟩ := ins_of ok hi hc
    obtain ⟨v, hl, w, ew, rw_⟩ := hg.get hf
    cases ew
    exact ⟨.ref a, v1, a, C, dx, gs, v, rfl, hH, c, n, hl, q v B H (Ext.refl ..) ok rw_⟩
/-- len(o.f), o.f a list that is a cell -/
theorem je_lenF (i : Nat) {j jl : Nat} (hm : X.mg "len" = none) (c : Cls X.K C) (n : NoAttr X.K C f) (hi : s.sl[i]? = some (.c j) := by rfl) (hc : s.cl[j]? = some (.ins C fs) := by rfl) (hf : fs.lookup f = some (.c jl) := by rfl) (hl : s.cl[jl]? = some (.lst xs) := by rfl) (hN : X.N[i]? = some x := by rfl) (hv : Vis X.env.scope x := by first | exact Or.inl rfl | exact Or.inr (Or.inl rfl) | exact Or.inr (Or.inr rfl)) (hd1 : (x == ("__debug__" : Str)) = false := by decide) (hd2 : (x == ("__classdict__" : Str)) = false := by decide)
    (hb : attributeBase (.Name x p2) f X.env (eval (.Name x p2) X.env) = eval (.Name x p2) X.env := by rfl) (hg : Gl X "len" := by rfl)
    (he : starEach (.Attribute (.Name x p2) f p :: []) X.env = (false, eval (.Attribute (.Name x p2) f p) X.env) :: starEach [] X.env := by rfl) (hpl : (backTo pos (starEach [] X.env)).any (·.1) = false := by rfl) : JE X W (.Call (.Name "len" py) [.Attribute (.Name x p2) f p] [] pos) s (.ok (.int xs.length)) s :=
  je_of (pe_callB call_len_seq hg hm PySem.boot_len (pa_cons (pe_fld (pe_var hN hv hd1 hd2) hb) pa_nil he) (by decide) (by decide) he hpl) fun as B H σ ok Q q => by
    obtain ⟨a, dx, gs, v1, _, hH, hgs⟩ := ins_of ok hi hc
    obtain ⟨v, hlk, al, hal, ev⟩ := hgs.get hf
    cases ev
    obtain ⟨vs, h1, h2⟩ := ok.cs.2 jl al _ hal hl
    exact ⟨.ref a, v1, a, C, dx, gs, _, rfl, hH, c, n, hlk, _, _, rfl, .inl (.inl (.inl h1)), by rw [h2.length]; exact q _ B H (Ext.refl ..) ok (.int _)⟩
/-- o.f = e, a value -/
theorem js_fld (i : Nat) {j : Nat} (c : Cls X.K C) (n : NoAttr X.K C f) (he : JE X WN e s (.ok d) s1) (hP : P.nx ⟨l, cl⟩) (hsl : s1.sl = l := by (first | rfl | exact rfl)) (hi : s1.sl[i]? = some (.c j) := by rfl) (hc : s1.cl[j]? = some (.ins C fs) := by rfl) (hcl : s1.cl.set j (.ins C (putS f (.d d) fs)) = cl := by rfl) (hn : fs.length < 1000 := by exact of_decide_eq_true rfl) (hN : X.N[i]? = some x := by rfl) (hv : Vis X.env.scope x := by first | exact Or.inl rfl | exact Or.inr (Or.inl rfl) | exact Or.inr (Or.inr rfl)) (hd1 : (x == ("__debug__" : Str)) = false := by decide) (hd2 : (x == ("__classdict__" : Str)) = false := by decide)
    (hs : swapsWith e (some (.Attribute (.Name x p2) f pos')) pos.line X.env = pure false := by rfl) : JS X W (.Assign [.Attribute (.Name x p2) f pos'] e pos) s P :=
  js_of (ps_fld (pe_var hN hv hd1 hd2) pe_w hs) fun as B H σ ok Dn fit => Ok.one he ok fun v B1 H1 x1 o1 r1 => by
    obtain ⟨a, dx, gs, v1, ha, hH, hg⟩ := ins_of o1 hi hc
    obtain ⟨o2, x2⟩ := o1.wr (o := .ins C dx (putF f v gs)) (c' := .ins C (putS f (.d d) fs)) ha hc True.intro ⟨dx, _, upd_same, (hg.put (x := .d d) ⟨v, rfl, r1⟩).1, (hg.put (x := .d d) ⟨v, rfl, r1⟩).2⟩
    rw [hcl] at o2
    rw [← hsl] at hP
    exact ⟨.ref a, v1, a, C, dx, gs, rfl, hH, c, n, by rw [hg.len]; exact hn, fit.nx as _ _ σ _ (x1.trans x2) o2 hP⟩
/-- o.f.append(e), o.f a list that is a cell -/
theorem js_appF (i : Nat) {j jl : Nat} (c : Cls X.K C) (n : NoAttr X.K C f) (he : JE X WN e s (.ok d) s1) (hlen : xs.length < sizeLine) (hP : P.nx ⟨l, cl⟩) (hsl : s1.sl = l := by rfl) (hi : s.sl[i]? = some (.c j) := by rfl) (hc : s.cl[j]? = some (.ins C fs) := by rfl) (hf : fs.lookup f = some (.c jl) := by rfl) (hl0 : ∃ zs, s.cl[jl]? = some (.lst zs) := by exact ⟨_, rfl⟩) (hl : s1.cl[jl]? = some (.lst xs) := by rfl) (hcl : s1.cl.set jl (.lst (xs ++ [d])) = cl := by rfl)
    (hN : X.N[i]? = some x := by rfl) (hv : Vis X.env.scope x := by first | exact Or.inl rfl | exact Or.inr (Or.inl rfl) | exact Or.inr (Or.inr rfl)) (hd1 : (x == ("__debug__" : Str)) = false := by decide) (hd2 : (x == ("__classdict__" : Str)) = false := by decide)
    (hb : attributeBase (.Name x p2) f X.env (eval (.Name x p2) X.env) = eval (.Name x p2) X.env := by rfl)
    (hbase : attributeBase (.Attribute (.Name x p2) f py) "append" X.env (eval (.Attribute (.Name x p2) f py) X.env) = eval (.Attribute (.Name x p2) f py) X.env := by rfl)
    (hfew : ((backTo p (starEach (e :: []) X.env)).all (fun x => !x.1) && (backToKw p (keywordEach [] X.env)).all (fun x => x.1.isSome)
      && decide ((e :: []).length + ([] : List Keyword).length + (if ([] : List Keyword).isEmpty then 0 else 1) < 30)) = true := by rfl)
    (hline : (apos.endLine == p.line) = true := by rfl) (hs : starEach (e :: []) X.env = (false, eval e X.env) :: starEach [] X.env := by rfl) (hplain : (backTo p (starEach [] X.env)).any (·.1) = false := by rfl)
    (hsw : swapsWith (.Call (.Attribute (.Attribute (.Name x p2) f py) "append" apos) [e] [] p) none pos.line X.env = pure false := by rfl) :
    JS X W (.Expr (.Call (.Attribute (.Attribute (.Name x p2) f py) "append" apos) [e] [] p) pos) s P :=
  js_of (ps_expr (pe_bm PySem.F.plainAttrs_list PySem.F.slot_list_append PySem.F.type_list_append mt_append (pe_fld (pe_var hN hv hd1 hd2) hb) (pa_cons pe_w pa_nil hs) hbase hfew hline hs hplain) hsw) fun as B H σ ok Dn fit => by
    obtain ⟨a, dx, gs, v1, _, hH, hgs⟩ := ins_of ok hi hc
    obtain ⟨v, hlk, al, hal, ev⟩ := hgs.get hf
    cases ev
    obtain ⟨zs, hz⟩ := hl0
    obtain ⟨us, hu, _⟩ := ok.cs.2 jl al _ hal hz
    refine ⟨.ref a, v1, a, C, dx, gs, _, rfl, hH, c, n, hlk, .inl ⟨rfl, _, .inl (.inl hu)⟩, Ok.one he ok fun v B1 H1 x1 o1 r1 => ?_⟩
    obtain ⟨vs, hH, hv⟩ := o1.cs.2 jl al _ hal hl
    obtain ⟨o2, x2⟩ := o1.wr (o := .lst (vs ++ [v])) (c' := .lst (xs ++ [d])) hal hl True.intro ⟨_, upd_same, hv.append (.cons r1 .nil)⟩
    rw [hcl] at o2
    rw [← hsl] at hP
    exact ⟨al, vs, v, rfl, rfl, hH, by rw [hv.length]; exact hlen, fit.nx as _ _ σ _ (x1.trans x2) o2 hP⟩
/-- the list o.f is a value from now on -/
theorem jb_freezeF (i j jl : Nat) (f : Str) (h : JB X W sts ⟨s.sl, cl⟩ P) (hi : s.sl[i]? = some (.c j) := by rfl) (hc : s.cl[j]? = some (.ins C fs) := by rfl) (hf : fs.lookup f = some (.c jl) := by rfl) (hne : j ≠ jl := by decide) (hl : s.cl[jl]? = some (.lst xs) := by rfl) (hcl : (s.cl.set jl .dead).set j (.ins C (putS f (.d (.lst xs)) fs)) = cl := by rfl) : JB X W sts s P := fun as B H σ ok Dn fit => by
  obtain ⟨a, dx, gs, v1, ha, hH, hgs⟩ := ins_of ok hi hc
  obtain ⟨v, hlk, al, hal, ev⟩ := hgs.get hf
  cases ev
  obtain ⟨vs, h1, hv⟩ := ok.cs.2 jl al _ hal hl
  obtain ⟨o1, x1⟩ := ok.freeze hal hl True.intro h1
  have hg1 : FsOk X.K (upd B al (.lst vs)) as gs fs := ⟨hgs.1, fun i x hx => (hgs.2 i x hx).mono x1.b ⟨[], by simp⟩⟩
  have hg2 : FsOk X.K (upd B al (.lst vs)) as gs (putS f (.d (.lst xs)) fs) := hg1.tell (fun v e => by
    rw [hlk] at e
    cases e
    exact ⟨_, rfl, .lst upd_same (hv.mono x1.b)⟩) (by rw [hf]; rfl)
  have hlen := o1.cs.1
  have hj : j < s.cl.length := (List.getElem?_eq_some_iff.mp hc).1
  refine h as _ H σ ⟨o1.sm, o1.nd, o1.ht, fun j' a' c' e1 e2 e3 => ?_, ⟨?_, fun j' a' c' e1 e2 => ?_⟩, o1.ln, o1.sl⟩ Dn (fit.on x1)
  · dsimp only at e2
    rw [← hcl] at e2
    by_cases e : j' = j
    · subst e
      refine o1.nb j' a' (.ins C fs) e1 ?_ True.intro
      dsimp only
      rw [List.getElem?_set_ne (Ne.symm hne)]
      exact hc
    · rw [List.getElem?_set_ne (Ne.symm e)] at e2
      exact o1.nb j' a' c' e1 e2 e3
  · dsimp only at hlen ⊢
    rw [← hcl, List.length_set]
    exact hlen
  · dsimp only at e2
    rw [← hcl] at e2
    by_cases e : j' = j
    · subst e
      rw [List.getElem?_set_self (by rw [List.length_set]; exact hj)] at e2
      cases e2
      rw [ha] at e1
      cases e1
      exact ⟨dx, gs, hH, hg2.1, hg2.2⟩
    · rw [List.getElem?_set_ne (Ne.symm e)] at e2
      exact o1.cs.2 j' a' c' e1 e2
/-- range(lo, hi, c) -/
theorem ji_range3 {lo hi : Int} {cc n : Nat} {tg : Expr} (hm : X.mg "range" = none) (h : JE X WN a s (.ok (.int lo)) s1) (h' : JE X WN b s1 (.ok (.int hi)) s2) (h3 : JE X WN c s2 (.ok (.int (cc : Nat))) s3) (hR : RgC lo hi (cc : Nat) n) (hg : Gl X "range" := by rfl)
    (e1 : starEach (c :: []) X.env = (false, eval c X.env) :: starEach [] X.env := by rfl) (e2 : starEach (b :: [c]) X.env = (false, eval b X.env) :: starEach [c] X.env := by rfl) (e3 : starEach (a :: [b, c]) X.env = (false, eval a X.env) :: starEach [b, c] X.env := by rfl)
    (hpl : (backTo pos (starEach [b, c] X.env)).any (·.1) = false := by rfl) : JI X tg (.Call (.Name "range" p) [a, b, c] [] pos) s ((List.range n).map fun i : Nat => D.int (lo + (i : Int) * (cc : Int))) s3 :=
  fun as B H σ ok R q => wI_of (pi_range3 hg hm (pa_cons pe_w (pa_cons pe_w (pa_cons pe_w pa_nil e1) e2) e3) e3 hpl) (h as B H σ ok _ fun x B1 H1 x1 o1 r1 => h' as B1 H1 σ o1 _ fun y B2 H2 x2 o2 r2 => h3 as B2 H2 σ o2 _ fun z B3 H3 x3 o3 r3 => by
    cases r1; cases r2; cases r3
    refine ⟨lo, hi, _, n, rfl, hR, q _ B3 H3 ((x1.trans x2).trans x3) o3 ?_⟩
    have len : ((List.range n).map fun i : Nat => D.int (lo + (i : Int) * (cc : Int))).length = n := by rw [List.length_map, List.length_range]
    refine ⟨fun i H hi _ => by rw [len] at hi; exact hi, fun H _ => by rw [len]; exact Nat.le_refl _, fun i H v H' hi _ y => ?_⟩
    rw [len] at hi
    obtain ⟨e1, e2⟩ := y
    subst e2
    exact ⟨e1, _, by rw [List.getElem?_map, List.getElem?_range hi]; rfl, .int _⟩)
/-! ### methods -/
structure MtC (P : Program) (w : World) (K : PySem.W.Frag) (mg : Str → Option Value) (base : Heap) (C : Addr) (x : Str) (n m k : Nat) (pre : List Sl → List Cl → Res → List Cl → Prop) : Prop where
  ex : ∃ (f : Addr) (fd : FuncData) (ps : List Str), ps.length = n ∧ FnOk P w K mg base (L2.CX P w) k f fd ps (spC K m pre) ∧ Meth K C x f ∧ Binds K fd ps []
theorem je_meth (i : Nat) {V : WX} {pl : Sem Bool} {j0 n m j : Nat} {pre : List Sl → List Cl → Res → List Cl → Prop} {cl' : List Cl} (K : Cok X V k) (c : Cls X.K C) (F : MtC X.prog X.w X.K X.mg X.base C y n m j pre) (hk : j ≤ k) (ha : JA X (e :: es) s sls s1) (hp : pre (.c j0 :: sls) (s1.cl.take m) (.ok d) cl') (hi : s.sl[i]? = some (.c j0) := by rfl) (hc : s.cl[j0]? = some (.ins C fs) := by rfl) (hf : fs.lookup y = none := by rfl) (hj0 : j0 < m := by decide) (hm : m ≤ s1.cl.length := by exact of_decide_eq_true rfl) (hb1 : (s1.cl.take m).all (·.below m) = true := by rfl) (hb2 : cl'.all (·.below m) = true := by rfl) (hb3 : sls.all (·.below m) = true := by rfl)
    (hcl : cl' ++ s1.cl.drop m = cl := by exact rfl) (hN : X.N[i]? = some x := by rfl) (hv : Vis X.env.scope x := by first | exact Or.inl rfl | exact Or.inr (Or.inl rfl) | exact Or.inr (Or.inr rfl)) (hd1 : (x == ("__debug__" : Str)) = false := by decide) (hd2 : (x == ("__classdict__" : Str)) = false := by decide)
    (hst : starEach (e :: es) X.env = (false, eval e X.env) :: starEach es X.env := by rfl) (hpl : (backTo pos (starEach es X.env)).any (·.1) = false := by rfl)
    (ht : eval (.Call (.Attribute (.Name x p2) y apos) (e :: es) [] pos) X.env = (do
      let ov ← eval (.Name x p2) X.env
      standAt apos.atName
      let (f, first) ← holding [ov] (getMethod ov y pl)
      callWith pos f first (backTo pos (starEach (e :: es) X.env)) (backToKw pos (keywordEach [] X.env))) := by rfl) :
    JE X W (.Call (.Attribute (.Name x p2) y apos) (e :: es) [] pos) s (.ok d) ⟨s1.sl, cl⟩ := fun as B H σ ok Q q => by
  obtain ⟨g, fd, ps, hn, hfn, hmt, hb⟩ := F.ex
  refine wE_of (pe_meth (E := fun _ _ _ => False) (pe_var hN hv hd1 hd2) c hmt hfn (K.hr.mono hk) hb .nil (passes_call K.tk fun _ _ _ _ z => z.elim) pa_w hst hpl ht) ?_
  obtain ⟨a, dx, gs, v1, haj, hH, hgs⟩ := ins_of ok hi hc
  refine ⟨.ref a, v1, a, dx, gs, rfl, hH, hgs.no hf, ha as B H σ ok _ fun vs B1 H1 x1 o1 r1 => ?_⟩
  have hl := o1.cs.1
  have same : ∀ j, j < m → (as.take m)[j]? = as[j]? := fun j hj => by rw [List.getElem?_take, if_pos hj]
  have o0 : Ok X.K (as.take m) B1 H1 ((.ref a :: vs).map some) ⟨.c j0 :: sls, s1.cl.take m⟩ := by
    refine ⟨o1.sm, o1.nd.sublist (List.take_sublist _ _), fun a ha => o1.ht a (List.mem_of_mem_take ha), fun j a d h1 h2 h3 => ?_, ⟨by simp [hl], fun j a d h1 h2 => ?_⟩, by rw [List.length_map, List.length_cons, List.length_cons, r1.length], fun i z hz => ?_⟩
    · dsimp only at h2
      rw [List.getElem?_take] at h1 h2
      split at h1
      · rename_i hj
        rw [if_pos hj] at h2
        exact o1.nb j a d h1 h2 h3
      · cases h1
    · dsimp only at h2
      have hbd : d.below m = true := List.all_eq_true.mp hb1 d (List.mem_of_getElem? h2)
      rw [List.getElem?_take] at h1 h2
      split at h1
      · rename_i hj
        rw [if_pos hj] at h2
        exact (o1.cs.2 j a d h1 h2).cut hbd same
      · cases h1
    · cases i with
      | zero =>
        have hz : some (Sl.c j0) = some z := hz
        cases hz
        exact ⟨a, by rw [same j0 hj0]; exact haj, rfl⟩
      | succ i =>
        have hz : sls[i]? = some z := hz
        exact (r1.get i z hz).cut (List.all_eq_true.mp hb3 z (List.mem_of_getElem? hz)) same
  refine ⟨as.take m, B1, .c j0 :: sls, s1.cl.take m, .ok d, cl', by rw [List.append_nil]; exact o0, by rw [List.length_take]; omega, hp, ?_⟩
  intro v as' B' H' c y o hc rv
  obtain ⟨x2, o2⟩ := ok_back o1 hm y o (by rw [hc]; exact hb2)
  rw [hc, hcl] at o2
  exact q v B' H' (x1.trans x2) o2 rv
/-! ### making -/
theorem Ok.adoptC {K : PySem.W.Frag} {as : List Addr} {B H : Hp} {σ : L2.St} {p : Addr} {c : Cl} (h : Ok K as B H σ s) (hp : p ∉ as) (hB : B p = Option.none) (hH : H p ≠ Option.none) (hc : ClOk K B (as ++ [p]) H p c) : Ok K (as ++ [p]) B H σ ⟨s.sl, s.cl ++ [c]⟩ := by
  have hl := h.cs.1
  have split : ∀ {j : Nat} {a : Addr} {d : Cl}, (as ++ [p])[j]? = some a → (s.cl ++ [c])[j]? = some d → (as[j]? = some a ∧ s.cl[j]? = some d) ∨ (a = p ∧ d = c) := fun {j a d} h1 h2 => by
    by_cases hj : j < as.length
    · rw [List.getElem?_append_left hj] at h1
      rw [List.getElem?_append_left (by omega)] at h2
      exact .inl ⟨h1, h2⟩
    · rw [List.getElem?_append_right (by omega)] at h1
      rw [List.getElem?_append_right (by omega)] at h2
      rw [hl] at h1
      cases e : j - s.cl.length with
      | zero => rw [e] at h1 h2; simp at h1 h2; exact .inr ⟨h1.symm, h2.symm⟩
      | succ n => rw [e] at h1; simp at h1
  refine ⟨h.sm, ?_, fun a ha => ?_, fun j a d h1 h2 h3 => ?_, ⟨by simp [hl], fun j a d h1 h2 => ?_⟩, h.ln, fun i x hx => (h.sl i x hx).mono (fun _ _ e => e) ⟨[p], rfl⟩⟩
  · rw [List.nodup_append]
    refine ⟨h.nd, by simp, fun a ha b hb => ?_⟩
    rw [List.mem_singleton.mp hb]
    exact fun z => hp (by rw [← z]; exact ha)
  · rcases List.mem_append.mp ha with ha | ha
    · exact h.ht a ha
    · rw [List.mem_singleton.mp ha]; exact hH
  · rcases split h1 h2 with ⟨h1, h2⟩ | ⟨rfl, rfl⟩
    · exact h.nb j a d h1 h2 h3
    · exact hB
  · rcases split h1 h2 with ⟨h1, h2⟩ | ⟨rfl, rfl⟩
    · exact (h.cs.2 j a d h1 h2).mono (fun _ _ e => e) ⟨[p], rfl⟩ fun _ u e => e
    · exact hc
theorem Ok.grow {K : PySem.W.Frag} {as : List Addr} {B H H' : Hp} {σ : L2.St} (h : Ok K as B H σ s) (g : ∀ b o, H b = some o → H' b = some o) : Ok K as B H' σ s :=
  ⟨fun b o e => g b o (h.sm b o e), h.nd, fun a ha => by
    cases q : H a with
    | none => exact absurd q (h.ht a ha)
    | some o => rw [g a o q]; exact fun z => (nomatch z), h.nb, ⟨h.cs.1, fun j a c h1 h2 => (h.cs.2 j a c h1 h2).mono (fun _ _ e => e) ⟨[], by simp⟩ fun _ o e => g a o e⟩, h.ln, h.sl⟩
/-- __init__(self, v): self.f = v; self.g = [] -/
def spInit (C : Addr) (f g : Str) : Sp := fun vs H Q _ => ∃ (x dx : Addr) (v : V), vs = [.ref x, v] ∧ H x = some (.ins C dx []) ∧
  ∀ (q : Addr) (H' : Hp), q ≠ x → H q = Option.none → H' q = some (.lst []) → H' x = some (.ins C dx [(f, v), (g, .ref q)]) → (∀ b o, H b = some o → b ≠ x → H' b = some o) → Q .non H'
structure MkM (P : Program) (w : World) (K : PySem.W.Frag) (mg : Str → Option Value) (base : Heap) (x : Str) (C : Addr) (f g : Str) (k : Nat) : Prop where
  mak : ∃ (h : Addr) (fd : FuncData) (ps : List Str), Mk K C h ∧ FnOk P w K mg base (L2.CX P w) k h fd ps (spInit C f g) ∧ Binds K fd ps []
  cl : Cls K C
  nf : NoAttr K C f
  ng : NoAttr K C g
  mg : mg x = some (.ref C)
  ne : f ≠ g
/-- x = C(e): the list, then the instance, are new cells -/
theorem js_make (i : Nat) {j : Nat} {f g : Str} (K : Cok X W k) (M : MkM X.prog X.w X.K X.mg X.base y C f g j) (hk : j + 1 ≤ k) (he : JE X WN e s (.ok d) s1) (hP : P.nx ⟨l, cl⟩) (hl : s1.sl.set i (.c (s1.cl.length + 1)) = l := by rfl) (hcl : s1.cl ++ [.lst [], .ins C [(f, .d d), (g, .c s1.cl.length)]] = cl := by rfl) (hN : X.N[i]? = some x := by rfl) (hx : Loc X.env.scope x := by first | exact .inl rfl | exact .inr rfl) (hn : i < s1.sl.length := by exact of_decide_eq_true rfl) (hs : swapsWith (.Call (.Name y p) [e] [] p2) (some (.Name x pos')) pos.line X.env = pure false := by rfl) (hf : X.fn x = true ∨ X.env.scope.names.lookup x = some .local := by first | exact .inl rfl | exact .inr rfl)
    (hg : Gl X y := by rfl) (hdb : (y == ("__debug__" : Str)) = false := by decide) (hse : starEach (e :: []) X.env = (false, eval e X.env) :: starEach [] X.env := by rfl) (hpl : (backTo p2 (starEach [] X.env)).any (·.1) = false := by rfl) :
    JS X W (.Assign [.Name x pos'] (.Call (.Name y p) [e] [] p2) pos) s P := by
  obtain ⟨h0, fd, ps, mk, hfn, hb⟩ := M.mak
  exact js_of (ps_set K.nd hN hx (pe_make (E := fun _ _ _ => False) mk hfn (K.hr.mono hk) hg M.mg hb .nil (passes_call K.tk fun _ _ _ _ z => z.elim) (pa_cons pe_w pa_nil hse) hdb hse hpl) hs hf) fun as B H σ ok Dn fit => Ok.one he ok fun v B1 H1 x1 o1 r1 => by
    intro z dz hz hdz hne
    refine ⟨z, dz, v, rfl, upd_same, fun q H' hq hqn h1 h2 h3 => ⟨rfl, ?_⟩⟩
    have hqd : q ≠ dz := fun e => by
      rw [upd_ne hq, e, upd_same] at hqn
      cases hqn
    rw [upd_ne hq, upd_ne hqd] at hqn
    have grow : ∀ b o, H1 b = some o → H' b = some o := fun b o e => by
      have n1 : b ≠ z := ne_of_none e hz
      have n2 : b ≠ dz := ne_of_none e hdz
      exact h3 b o (by rw [upd_ne n1, upd_ne n2]; exact e) n1
    have o2 := o1.grow grow
    have hl1 := o1.cs.1
    have qa : q ∉ as := fun e => o1.ht q e hqn
    have za : z ∉ as := fun e => o1.ht z e hz
    have o3 := o2.adoptC (p := q) (c := .lst []) qa (o1.sm.free hqn) (ne_none h1) ⟨[], h1, .nil⟩
    have atq : ((as ++ [q]) ++ [z])[s1.cl.length]? = some q := by
      rw [List.append_assoc, List.getElem?_append_right (by omega), hl1, Nat.sub_self]
      rfl
    have o4 := o3.adoptC (p := z) (c := .ins C [(f, .d d), (g, .c s1.cl.length)]) (fun e => by
      rcases List.mem_append.mp e with e | e
      · exact za e
      · exact hq (List.mem_singleton.mp e).symm) (o1.sm.free hz) (ne_none h2) ⟨dz, _, h2, rfl, fun i y hy => by
        match i, hy with
        | 0, hy => cases hy; exact ⟨v, rfl, r1⟩
        | 1, hy => cases hy; exact ⟨q, atq, rfl⟩⟩
    have o5 := o4.store (i := i) (o := some (.ref z)) (x := .c (s1.cl.length + 1)) hn ⟨z, by
      rw [List.getElem?_append_right (by rw [List.length_append]; show as.length + 1 ≤ _; omega), List.length_append]
      have : s1.cl.length + 1 - (as.length + [q].length) = 0 := by show s1.cl.length + 1 - (as.length + 1) = 0; omega
      rw [this]
      rfl, rfl⟩
    dsimp only at o5
    have o6 : Ok X.K ((as ++ [q]) ++ [z]) B1 H' (σ.set i (some (.ref z))) ⟨l, cl⟩ := by
      have e : s1.cl ++ [Cl.lst []] ++ [Cl.ins C [(f, Sl.d d), (g, Sl.c s1.cl.length)]] = cl := by rw [← hcl, List.append_assoc]; rfl
      rw [hl, e] at o5
      exact o5
    refine fit.nx _ B1 H' _ _ (x1.trans ⟨fun _ _ e => e, fun a o _ e => grow a o e, fun a e _ _ => e, ⟨[q, z], by rw [List.append_assoc]; rfl, fun a ha => ?_⟩, fun a ha => ?_⟩) o6 hP
    · rcases List.mem_cons.mp ha with e | ha
      · rw [e]; exact hqn
      · rw [List.mem_singleton.mp ha]; exact hz
    · cases e : H1 a with
      | none => exact absurd e ha
      | some o => rw [grow a o e]; exact fun z => nomatch z
end
section
variable {Pg : Program} {w : World} {K : PySem.W.Frag} {mg : Str → Option Value} {base : Heap} {x : Str} {st : Stmt} {k : Nat}
theorem mt_okC {C : Addr} {qual : Str} {f : Addr} {fd : FuncData} {N ps : List Str} {m : Nat} {pre : List Sl → List Cl → Res → List Cl → Prop} (F : Fun K x qual st f fd) (S : FnScope N ps (defScope st)) (hb : Binds K fd ps []) (hm : Meth K C x f) (hlen : ∀ sls cl r cl', pre sls cl r cl' → sls.length = ps.length) (hN : ps.length ≤ N.length := by (show _ ≤ _; decide))
    (body : ∀ (cdv : Value) (A : Around) (outer : List Env) (s : Shared) (H : Hp) (E : XK), Cok (cxOf (L2.CX Pg w) Pg w K mg base N qual (defScope st) f cdv A outer s H E) (fun cls d _ H => E cls d H) k → ∀ sls cl r cl', cl.length = m → pre sls cl r cl' →
      JB (cxOf (L2.CX Pg w) Pg w K mg base N qual (defScope st) f cdv A outer s H E) (fun cls d _ H => E cls d H) (defBody st) ⟨slC N sls, cl⟩ (PoC m r cl')) : MtC Pg w K mg base C x ps.length m (k + 1) pre where
  ex := ⟨f, fd, ps, rfl, F.okX S (fun vs H Q E h => by
      obtain ⟨as, B, sls, cl, r, cl', o, _, hp, _⟩ := h
      have ln := o.ln
      simp at ln
      rw [ln]
      exact hlen _ _ _ _ hp) (fun cdv A outer s H vs Q E hr h => by
      obtain ⟨as, B, sls, cl, r, cl', o, hml, hp, q⟩ := h
      refine ⟨_, pss_w, ?_⟩
      have C : Cok (cxOf (L2.CX Pg w) Pg w K mg base N qual (defScope st) f cdv A outer s H E) (fun cls d _ H => E cls d H) k := ⟨hr, takes_of rfl rfl rfl rfl, rfl, passes_of rfl, S.nd⟩
      refine body cdv A outer s H E C sls cl r cl' hml hp as B H _ (ok_startC o (by rw [hlen _ _ _ _ hp]; exact hN)) _ ⟨?_, ?_, ?_, ?_, ?_⟩
      · intro as' B' H' σ' s' y o' z
        obtain ⟨z', zc⟩ := z
        subst z'
        exact q .non as' B' H' s'.cl y o'.none zc .non
      · intro as' B' H' σ' s' v d y o' rv z
        obtain ⟨z', zc⟩ := z
        subst z'
        exact q v as' B' H' s'.cl y o'.none zc rv
      · intro as' B' H' σ' s' y o' z; exact z.elim
      · intro as' B' H' σ' s' y o' z; exact z.elim
      · intro as' B' H' σ' s' c y o' z
        obtain ⟨z', zc⟩ := z
        subst z'
        exact q as' B' H' s'.cl y o'.none zc), hm, hb⟩
end
end DL
set_option Elab.async false
set_option linter.all false
set_option maxRecDepth 100000
set_option maxHeartbeats 4000000
set_option autoImplicit true
/-! DLo: how many a set holds; what is sorted -/
namespace DL
open PySem PySem.Spec PyProof.Rows L2
theorem nd_len {α : Type} [DecidableEq α] : ∀ {L M : List α}, L.Nodup → (∀ x ∈ L, x ∈ M) → L.length ≤ M.length
  | [], _, _, _ => Nat.zero_le _
  | a :: L, M, h, hs => by
    rw [List.nodup_cons] at h
    have hm := hs a List.mem_cons_self
    have := nd_len (L := L) (M := M.erase a) h.2 fun x hx => (List.mem_erase_of_ne (fun e => h.1 (by rw [← e]; exact hx))).mpr (hs x (List.mem_cons_of_mem _ hx))
    rw [List.length_erase_of_mem hm] at this
    have hp := List.length_pos_of_mem hm
    rw [List.length_cons]
    omega
/-- tuples of ints, as their places and what they hold -/
theorem reps_tups {K : PySem.W.Frag} {B : Hp} : ∀ {ls : List (List Int)} {vs : List V}, Reps K B vs (ls.map fun s => D.tup (s.map .int)) → ∃ ks : List (Addr × List Int), vs = ks.map (fun p => V.ref p.1) ∧ ks.map (·.2) = ls ∧ ∀ p ∈ ks, SqT K B p.1 (p.2.map V.int)
  | [], _, h => by cases h; exact ⟨[], rfl, rfl, fun _ z => nomatch z⟩
  | s :: ls, _, h => by
    cases h with
    | cons h1 h2 =>
      obtain ⟨ks, e1, e2, h3⟩ := reps_tups h2
      cases h1 with
      | @tup p us _ sq hr =>
        have e := hr.ints
        subst e
        refine ⟨(p, s) :: ks, by rw [e1]; rfl, by rw [← e2]; rfl, fun q hq => ?_⟩
        rcases List.mem_cons.mp hq with rfl | hq
        · exact sq
        · exact h3 q hq
def tLenSetT (K : PySem.W.Frag) (ta : TE) : TE := fun σ H Q => ta σ H fun x H1 => ∃ (l : Addr) (ks : List (Addr × List Int)), x = V.ref l ∧ SqL K H1 l (ks.map fun p => V.ref p.1) ∧ (∀ p ∈ ks, SqT K H1 p.1 (p.2.map V.int)) ∧ ks.length < 64 ∧ (ks.map (·.2)).Nodup ∧ Q (.int ks.length) H1
section
variable {X : Cx} {W : WX} {k : Nat} {e a b c : Expr} {es : List Expr} {s s' s1 s2 : A} {d da db : D} {xs ys : List D} {pos p2 p q : Pos}
theorem pe_lenSetT {ta : TE} (hc : X.calm = true) (hu : X.A.units + 64 < cLine) (hg : Gl X "len") (hm : X.mg "len" = none) (hg2 : Gl X "set") (hm2 : X.mg "set" = none) (ha : PE X a ta)
    (na : starEach [a] X.env = (false, eval a X.env) :: starEach [] X.env := by rfl) : PE X (.Call (.Name "len" p) [.Call (.Name "set" p2) [a] [] q] [] pos) (tLenSetT X.K ta) := by
  refine ⟨fun pins s σ H Q I h => ?_⟩
  refine Call_ (ld_blt I hg hm PySem.boot_len ?_)
  refine PyProof.Rows.callWith_builtin1 (PyProof.Rows.args_cons ?_ rfl) rfl rfl
  refine Call_ (ld_blt I hg2 hm2 PyProof.Rows.boot_set ?_)
  refine PyProof.Rows.callWith_type1 (PyProof.Rows.args_cons (thn (ha.run pins s σ H _ I h) fun v s1 ⟨x, H1, I1, r1, q1⟩ => PyProof.Rows.args_nil ?_) na) na rfl
  obtain ⟨l, ks, rfl, hq, hk, h1, hnd, q1⟩ := q1
  cases r1
  obtain ⟨its, r, pl, hz⟩ := I1.list hq
  refine call_set_tups (P := X.prog) (w := X.w) ks (I1.ok.hd hc) pl.isList (by simpa using refs_of_vals r) (fun p hp => I1.isT (hk p hp)) h1 (by omega) fun h' tk L es ep t R g hkeep => ?_
  refine PyProof.Rows.args_nil ?_
  obtain ⟨o, ho, hex, hd⟩ := R.ob
  have hlen : L.length = ks.length := by
    have a1 := nd_len R.nd fun x hx => by
      obtain ⟨p, hp, rfl⟩ := List.mem_map.mp hx
      have := g.sub p hp
      rw [List.take_length] at this
      exact List.mem_map.mpr ⟨p, this, rfl⟩
    have a2 := nd_len hnd fun x hx => by
      obtain ⟨p, hp, rfl⟩ := List.mem_map.mp hx
      exact g.all p (by rw [List.take_length]; exact hp)
    rw [List.length_map, List.length_map] at a1 a2
    omega
  have hsz := SetTR.size (s := { s1 with heap := h', toks := tk }) R
  have hfit := SetTR.fits (s := { s1 with heap := h', toks := tk }) R
  have I2 : Inv X pins σ H1 { s1 with heap := h', toks := tk } := I1.kept fun b o e => hkeep b o e
  refine PySem.call_len_set ho hex hd hfit (by omega) ⟨.int ks.length, H1, I2.tok _, ⟨_, by rw [hsz, hlen]⟩, q1⟩
/-- len(set(l)), l a list of tuples of ints, no two alike -/
theorem je_lenSetT {ls : List (List Int)} {V : WX} (C : Cok X V k) (hm : X.mg "len" = none) (hm2 : X.mg "set" = none) (ha : JE X W a s (.ok (.lst (ls.map fun s => D.tup (s.map .int)))) s1) (hl : ls.length < 64) (hnd : ls.Nodup) (hg : Gl X "len" := by rfl) (hg2 : Gl X "set" := by rfl)
    (na : starEach [a] X.env = (false, eval a X.env) :: starEach [] X.env := by rfl) : JE X W (.Call (.Name "len" p) [.Call (.Name "set" p2) [a] [] q] [] pos) s (.ok (.int ls.length)) s1 :=
  je_of (pe_lenSetT C.calm C.hr.units hg hm hg2 hm2 pe_w na) fun as B H σ ok Q q => Ok.one ha ok fun x B1 H1 x1 o1 r1 => by
    cases r1 with
    | lst h1 h2 =>
      obtain ⟨ks, e1, e2, h3⟩ := reps_tups h2
      subst e1 e2
      rw [List.length_map] at hl
      have q1 := q _ B1 H1 x1 o1 (.int _)
      rw [List.length_map] at q1
      exact ⟨_, ks, rfl, .inl (.inl (o1.sm _ _ h1)), fun p hp => same_t o1.sm (h3 p hp), hl, hnd, q1⟩
end
/-! ### sorted -/
theorem uniq {α : Type} {r : α → α → Prop} (anti : ∀ a b, r a b → r b a → a = b) : ∀ {l m : List α}, l.Perm m → l.Pairwise r → m.Pairwise r → l = m
  | [], m, p, _, _ => (List.Perm.eq_nil p.symm).symm
  | a :: l, [], p, _, _ => absurd p.length_eq (by simp)
  | a :: l, b :: m, p, h1, h2 => by
    have ea : a = b := by
      rcases List.mem_cons.mp (p.mem_iff.mp List.mem_cons_self) with e | ha
      · exact e
      · rcases List.mem_cons.mp (p.mem_iff.mpr List.mem_cons_self) with e | hb
        · exact e.symm
        · exact anti a b ((List.pairwise_cons.mp h1).1 b hb) ((List.pairwise_cons.mp h2).1 a ha)
    subst ea
    rw [uniq anti p.cons_inv (List.pairwise_cons.mp h1).2 (List.pairwise_cons.mp h2).2]
def prOf (h : Heap) : Value → Int × Int
  | .ref a => match h.get? a with
    | some o => (match o.data with
      | .seq its _ => (match its.toList with
        | [.int x _, .int y _] => (x, y)
        | _ => (0, 0))
      | _ => (0, 0))
    | none => (0, 0)
  | _ => (0, 0)
theorem prOf_ok {h : Heap} {v : Value} {x y : Int} (p : Srt.IsPair h v x y) : prOf h v = (x, y) := by
  obtain ⟨a, o, t, u, n, rfl, ho, _, hd⟩ := p
  unfold prOf
  simp only [ho, hd]
/-- not behind: by the first, then by the second -/
def lexLe (p q : Int × Int) : Prop := ¬ (q.1 < p.1 ∨ (q.1 = p.1 ∧ q.2 < p.2))
theorem lexLe_anti (p q : Int × Int) (h1 : lexLe p q) (h2 : lexLe q p) : p = q := by
  unfold lexLe at h1 h2
  exact Prod.ext (by omega) (by omega)
def rSortedPT (K : PySem.W.Frag) : List V → Hp → VK → Prop := fun vs H Q => ∃ (a : Addr) (xs : List V) (ps : List (Int × Int)), vs = [V.ref a] ∧ SqL K H a xs ∧ xs.length = ps.length ∧ (∀ (i : Nat) (x : V), xs[i]? = some x → ∃ t p, x = .ref t ∧ ps[i]? = some p ∧ SqT K H t [.int p.1, .int p.2]) ∧
  ∀ (ys : List V) (rs : List (Int × Int)) (q : Addr), ys.length = rs.length → (∀ (i : Nat) (y : V) (r : Int × Int), ys[i]? = some y → rs[i]? = some r → ∃ j : Nat, xs[j]? = some y ∧ ps[j]? = some r) → rs.Perm ps → rs.Pairwise lexLe → H q = none → Q (.ref q) (upd H q (.lst ys))
theorem cr_sortedPT {X : Cx} : CallR X (.builtin "sorted") (rSortedPT X.K) := by
  intro pins s σ H vs us Q I r h
  obtain ⟨a, xs, ps, rfl, hs, hlen, hx, q⟩ := h
  obtain ⟨its, rv, hl, hz⟩ := I.list hs
  rw [Vals.ref1 r]
  obtain ⟨e1, e2⟩ := refs_back rv fun x m => by
    obtain ⟨i, hi, e⟩ := List.getElem_of_mem m
    obtain ⟨t, p, e, _⟩ := hx i x (List.getElem?_eq_some_iff.mpr ⟨hi, e⟩)
    exact ⟨t, e⟩
  have hil : its.length = ps.length := by rw [← rv.length]; exact hlen
  have at_ : ∀ (i : Nat) (v : Value), its[i]? = some v → ∃ p, ps[i]? = some p ∧ Srt.IsPair s.heap v p.1 p.2 := fun i v hv => by
    have hx1 : xs[i]? = some (backV v) := by rw [e1, List.getElem?_map, hv]; rfl
    obtain ⟨t, p, e, hp, sq⟩ := hx i _ hx1
    obtain ⟨b, rfl⟩ := e2 v (List.mem_of_getElem? hv)
    have e : V.ref b = V.ref t := e
    have e : b = t := V.ref.inj e
    subst e
    obtain ⟨us, r2, ⟨o, ho, hc, n, hd⟩, _⟩ := I.tuple sq
    obtain ⟨u1, u2, rfl, ri, rj⟩ := vals2 r2
    obtain ⟨t1, rfl⟩ := ri
    obtain ⟨t2, rfl⟩ := rj
    exact ⟨p, hp, b, o, t1, t2, n, rfl, ho, hc, hd⟩
  have eps : its.map (prOf s.heap) = ps := by
    refine List.ext_getElem? fun i => ?_
    rw [List.getElem?_map]
    cases e : its[i]? with
    | none =>
      have : ps[i]? = none := by
        rw [List.getElem?_eq_none_iff] at e ⊢
        omega
      rw [this]
      rfl
    | some v =>
      obtain ⟨p, hp, ip⟩ := at_ i v e
      rw [hp]
      exact congrArg some (prOf_ok ip)
  refine SrtO.sorted_pairsO (k := prOf s.heap) hl.isList (by rw [← rv.length]; exact hz) (fun v hv => ?_) fun h' d out h1 h2 kp hd hn => ?_
  · obtain ⟨i, hi, e⟩ := List.getElem_of_mem hv
    obtain ⟨p, hp, ip⟩ := at_ i v (List.getElem?_eq_some_iff.mpr ⟨hi, e⟩)
    rw [prOf_ok ip]
    exact ip
  · have h3 : ∀ u ∈ out, ∃ a, u = Value.ref a := fun u hu => e2 u (h2.perm.mem_iff.mp hu)
    obtain ⟨n, hn⟩ := hn
    refine ⟨.ref d, upd H d (.lst (out.map backV)), I.laid (t' := s.toks) kp hd ⟨?_, out, n, vals_back h3, hn⟩, rfl, q _ (out.map (prOf s.heap)) d (by rw [List.length_map, List.length_map]) (fun i y rr hy hr => ?_) ?_ ?_ (I.hok.fresh hd)⟩
    · rw [List.length_map, h2.perm.length_eq, ← rv.length]
      exact hz
    · rw [List.getElem?_map] at hy hr
      cases e : out[i]? with
      | none => rw [e] at hy; cases hy
      | some u =>
        rw [e] at hy hr
        cases hy
        cases hr
        obtain ⟨j, hj, e3⟩ := List.getElem_of_mem (h2.perm.mem_iff.mp (List.mem_of_getElem? e))
        have e4 : its[j]? = some u := List.getElem?_eq_some_iff.mpr ⟨hj, e3⟩
        exact ⟨j, by rw [e1, List.getElem?_map, e4]; rfl, by rw [← eps, List.getElem?_map, e4]; rfl⟩
    · rw [← eps]
      exact h2.perm.map _
    · rw [List.pairwise_map]
      exact List.Pairwise.imp (fun {u v} h => by
        have := SrtO.lexB_no.mp h
        exact this) h1
theorem reps_idx {K : PySem.W.Frag} {B : Hp} : ∀ {ys : List V} {ds : List D}, ys.length = ds.length → (∀ (i : Nat) (y : V) (d : D), ys[i]? = some y → ds[i]? = some d → Rep K B y d) → Reps K B ys ds
  | [], [], _, _ => .nil
  | [], _ :: _, h, _ => by simp at h
  | _ :: _, [], h, _ => by simp at h
  | y :: ys, d :: ds, h, hr => .cons (hr 0 y d rfl rfl) (reps_idx (by simpa using h) fun i y d hy hd => hr (i + 1) y d hy hd)
def eI2 (p : Int × Int) : D := .tup [.int p.1, .int p.2]
section
variable {X : Cx} {W : WX} {k : Nat} {e a b c : Expr} {es : List Expr} {s s' s1 s2 : A} {d da db : D} {xs ys : List D} {pos p2 p q : Pos}
/-- sorted(l), l a list of pairs of ints: qs is what it comes to -/
theorem jf_sortedP {ps qs : List (Int × Int)} (hm : X.mg "sorted" = none) (ha : JE X WN a s (.ok (.lst (ps.map eI2))) s1) (hp : qs.Perm ps) (hs : qs.Pairwise lexLe) (hg : Gl X "sorted" := by rfl)
    (he : starEach (a :: []) X.env = (false, eval a X.env) :: starEach [] X.env := by rfl) (hpl : (backTo pos (starEach [] X.env)).any (·.1) = false := by rfl) : JF X (.Call (.Name "sorted" p) [a] [] pos) s (qs.map eI2) s1 :=
  jf_of (pe_callB cr_sortedPT hg hm (by decide +kernel) (pa_cons pe_w pa_nil he) (by decide) (by decide) he hpl) fun as B H σ ok Q q => Ok.one (W := WN) ha ok fun v B1 H1 x1 o1 r1 => by
    cases r1 with
    | @lst a0 vs _ h1 h2 =>
      have hl := h2.length
      rw [List.length_map] at hl
      refine ⟨a0, vs, ps, rfl, .inl (.inl (o1.sm _ _ h1)), hl, fun i x hx => ?_, fun ys rs q0 e1 e2 e3 e4 hq => ?_⟩
      · obtain ⟨d, hd, hr⟩ := h2.getV hx
        rw [List.getElem?_map] at hd
        cases e : ps[i]? with
        | none => rw [e] at hd; cases hd
        | some p =>
          rw [e] at hd
          have hd : eI2 p = d := Option.some.inj hd
          subst hd
          cases hr with
          | @tup t us _ sq hv =>
            have z := (show Reps X.K B1 us (([p.1, p.2] : List Int).map .int) from hv).ints
            subst z
            exact ⟨t, p, rfl, rfl, same_t o1.sm sq⟩
      · have er : rs = qs := uniq lexLe_anti (e3.trans hp.symm) e4 hs
        subst er
        refine Ok.newF x1 o1 hq (reps_idx (by rw [List.length_map]; exact e1) fun i y d hy hd => ?_) q
        rw [List.getElem?_map] at hd
        cases e : rs[i]? with
        | none => rw [e] at hd; cases hd
        | some r =>
          rw [e] at hd
          have hd : eI2 r = d := Option.some.inj hd
          subst hd
          obtain ⟨j, hj1, hj2⟩ := e2 i y r hy e
          obtain ⟨d2, hd2, hr⟩ := h2.getV hj1
          rw [List.getElem?_map, hj2] at hd2
          have hd2 : eI2 r = d2 := Option.some.inj hd2
          subst hd2
          exact hr
/-- sorted(l), l a list of ints -/
theorem jf_sortedI {ns ms : List Int} (hm : X.mg "sorted" = none) (ha : JE X WN a s (.ok (.lst (ns.map .int))) s1) (hp : ms.Perm ns) (hs : ms.Pairwise (· ≤ ·)) (hg : Gl X "sorted" := by rfl)
    (he : starEach (a :: []) X.env = (false, eval a X.env) :: starEach [] X.env := by rfl) (hpl : (backTo pos (starEach [] X.env)).any (·.1) = false := by rfl) : JF X (.Call (.Name "sorted" p) [a] [] pos) s (ms.map .int) s1 :=
  jf_of (pe_callB cr_sortedI hg hm (by decide +kernel) (pa_cons pe_w pa_nil he) (by decide) (by decide) he hpl) fun as B H σ ok Q q => Ok.one (W := WN) ha ok fun v B1 H1 x1 o1 r1 => by
    cases r1 with
    | @lst a0 vs _ h1 h2 =>
      have z := h2.ints
      subst z
      refine ⟨a0, ns, rfl, .inl (.inl (o1.sm _ _ h1)), fun ns' q0 e1 e2 hq => ?_⟩
      have er : ns' = ms := uniq (fun a b h1 h2 => Int.le_antisymm h1 h2) (e1.trans hp.symm) e2 hs
      subst er
      exact Ok.newF x1 o1 hq (Reps.of_ints _) q
end
end DL
set_option Elab.async false
set_option linter.all false
set_option maxRecDepth 100000
set_option maxHeartbeats 4000000
set_option autoImplicit true
/-! DLp: comprehensions over pairs -/
namespace DL
open PySem PySem.Spec PyProof.Rows L2
section
variable {X : Cx} {W : WX} {k : Nat} {e a b c iter elt : Expr} {s s' s1 s2 s3 : A} {d d' da db dc : D} {pos p2 p apos pos' px py pp : Pos} {x y : Str} {scope : Scope}
/-- [elt for x, y in l], x in slot i, y in slot j -/
theorem lc_map2 {α : Type} (i j : Nat) (lst : List α) {d1 d2 f : α → D} (C : Cok X W k) (hi : JI X (.Tuple [.Name x px, .Name y py] 0 pp) iter s (lst.map fun a => .tup [d1 a, d2 a]) s1)
    (hs : ∀ a ∈ lst, Blk X scope fun Y => Cok Y WN k → JE Y WN elt ⟨(s1.sl.set i (.d (d1 a))).set j (.d (d2 a)), s1.cl⟩ (.ok (f a)) ⟨(s1.sl.set i (.d (d1 a))).set j (.d (d2 a)), s1.cl⟩) (hlen : lst.length ≤ sizeLine := by assumption)
    (hblk : blkC X.N X.env.scope scope [(x, i), (y, j)] = true := by kernel_rfl) (hn : i < s1.sl.length := by exact of_decide_eq_true rfl) (hm : j < s1.sl.length := by exact of_decide_eq_true rfl) (hij : i ≠ j := by decide) (hNi : X.N[i]? = some x := by rfl) (hNj : X.N[j]? = some y := by rfl)
    (hloc : Blk X scope fun Y => Loc Y.env.scope x := by first | exact fun _ _ _ _ _ => Or.inl rfl | exact fun _ _ _ _ _ => Or.inr rfl) (hfn : Blk X scope fun Y => Y.fn x = true ∨ Y.env.scope.names.lookup x = some .local := by first | exact fun _ _ _ _ _ => .inr rfl | exact fun _ _ _ _ _ => .inl rfl)
    (hloc2 : Blk X scope fun Y => Loc Y.env.scope y := by first | exact fun _ _ _ _ _ => Or.inl rfl | exact fun _ _ _ _ _ => Or.inr rfl) (hfn2 : Blk X scope fun Y => Y.fn y = true ∨ Y.env.scope.names.lookup y = some .local := by first | exact fun _ _ _ _ _ => .inr rfl | exact fun _ _ _ _ _ => .inl rfl) :
    Lc X (.Tuple [.Name x px, .Name y py] 0 pp) iter elt [] scope [(x, i), (y, j)] (gTup X.K 2 (gCons (gName i) (gCons (gName j) gNil))) s (lst.map f) s1 := by
  have h := lc_mk (elt := elt) (ifs := []) hi (tgt_pair (K := X.K) hn hm hij) (blkOk_by hblk) (Nat.zero_le _) (fun s0 H0 C0 cl0 fp0 => pg_tup (C.blk s0 H0 C0 cl0 fp0).calm (pgs_cons (pg_name C.nd hNi (hloc s0 H0 C0 cl0 fp0) (hfn s0 H0 C0 cl0 fp0)) (pgs_cons (pg_name C.nd hNj (hloc2 s0 H0 C0 cl0 fp0) (hfn2 s0 H0 C0 cl0 fp0)) pgs_nil))) (fun j => (lst.take j).map f) (fun _ => s1.cl) rfl rfl (fun j hj => by
    rw [List.length_map, List.length_take]
    rw [List.length_map] at hj
    omega) (fun q d hd => by
    rw [List.getElem?_map] at hd
    cases eq : lst[q]? with
    | none => rw [eq] at hd; cases hd
    | some a =>
      rw [eq] at hd
      have hd' : D.tup [d1 a, d2 a] = d := Option.some.inj hd
      subst hd'
      refine ⟨(s1.sl.set i (.d (d1 a))).set j (.d (d2 a)), true, ⟨d1 a, d2 a, rfl, ?_⟩, rfl, fun _ => ⟨f a, fun s0 H0 C0 cl0 fp0 => hs a (List.mem_of_getElem? eq) s0 H0 C0 cl0 fp0 (C.blk s0 H0 C0 cl0 fp0), ?_⟩, fun z => nomatch z⟩
      · show (((s1.sl.set j .u).set i .u).set i (.d (d1 a))).set j (.d (d2 a)) = _
        rw [List.set_set, List.set_comm _ _ (Ne.symm hij), List.set_set]
      · rw [List.take_add_one, eq, List.map_append]
        rfl)
  rw [List.length_map, List.take_length] at h
  exact h
end
end DL
set_option Elab.async false
set_option linter.all false
set_option maxRecDepth 100000
set_option maxHeartbeats 4000000
set_option autoImplicit true
/-! DLq: l.remove(x) -/
namespace DL
open PySem PySem.Spec PyProof.Rows L2
section
variable {X : Cx} {W : WX} {k : Nat} {e : Expr} {s s' s1 : A} {P : Po} {d : D} {pos p2 p apos : Pos} {x : Str} {l : List Sl}
/-- l.remove(e), l a cell of whole numbers that has e -/
theorem js_rem (i j : Nat) {cl : List Cl} {ns : List Int} {n : Int} (C : Cok X W k) (he : JE X WN e s (.ok (.int n)) s1) (hmem : n ∈ ns) (hP : P.nx ⟨l, cl⟩) (hsl : s1.sl = l := by (first | (dsimp only [List.set, List.length_cons, List.length_nil, List.cons_append, List.nil_append, Nat.reduceAdd]; done) | (dsimp only [List.set, List.length_cons, List.length_nil, List.cons_append, List.nil_append, Nat.reduceAdd]; exact rfl) | exact rfl)) (hi : s.sl[i]? = some (.c j) := by rfl) (hc0 : ∃ zs, s.cl[j]? = some (.lst zs) := by exact ⟨_, rfl⟩) (hc : s1.cl[j]? = some (.lst (ns.map .int)) := by rfl) (hcl : s1.cl.set j (.lst ((ns.erase n).map .int)) = cl := by (first | (dsimp only [List.set, List.length_cons, List.length_nil, List.cons_append, List.nil_append, Nat.reduceAdd]; done) | (dsimp only [List.set, List.length_cons, List.length_nil, List.cons_append, List.nil_append, Nat.reduceAdd]; exact rfl) | exact rfl)) (hN : X.N[i]? = some x := by rfl)
    (hv : Vis X.env.scope x := by first | exact Or.inl rfl | exact Or.inr (Or.inl rfl) | exact Or.inr (Or.inr rfl)) (hd1 : (x == ("__debug__" : Str)) = false := by decide) (hd2 : (x == ("__classdict__" : Str)) = false := by decide)
    (hbase : attributeBase (.Name x p2) "remove" X.env (eval (.Name x p2) X.env) = eval (.Name x p2) X.env := by rfl)
    (hfew : ((backTo p (starEach (e :: []) X.env)).all (fun x => !x.1) && (backToKw p (keywordEach [] X.env)).all (fun x => x.1.isSome)
      && decide ((e :: []).length + ([] : List Keyword).length + (if ([] : List Keyword).isEmpty then 0 else 1) < 30)) = true := by rfl)
    (hline : (apos.endLine == p.line) = true := by rfl) (hs : starEach (e :: []) X.env = (false, eval e X.env) :: starEach [] X.env := by rfl) (hplain : (backTo p (starEach [] X.env)).any (·.1) = false := by rfl)
    (hsw : swapsWith (.Call (.Attribute (.Name x p2) "remove" apos) [e] [] p) none pos.line X.env = pure false := by rfl) :
    JS X W (.Expr (.Call (.Attribute (.Name x p2) "remove" apos) [e] [] p) pos) s P :=
  js_of (ps_expr (pe_remX C.calm C.tk (pe_var hN hv hd1 hd2) pe_w hbase hfew hline hs hplain) hsw) fun as B H σ ok Dn f => by
    obtain ⟨a, e1, ha⟩ := cell_of ok hi
    obtain ⟨zs, hz⟩ := hc0
    obtain ⟨us, hu, _⟩ := ok.cs.2 j a _ ha hz
    refine ⟨.ref a, e1, .inl ⟨rfl, _, .inl (.inl hu)⟩, Ok.one he ok fun v B1 H1 x1 o1 r1 => ?_⟩
    cases r1
    obtain ⟨vs, hH, hv⟩ := o1.cs.2 j a _ ha hc
    have ev := hv.ints
    subst ev
    obtain ⟨o2, x2⟩ := o1.wr (o := .lst ((ns.erase n).map V.int)) (c' := .lst ((ns.erase n).map .int)) ha hc True.intro ⟨_, upd_same, Reps.of_ints _⟩
    rw [hcl] at o2
    rw [← hsl] at hP
    exact ⟨a, ns, n, rfl, rfl, hH, fun _ => f.nx as _ _ σ _ (x1.trans x2) o2 hP, fun z => absurd hmem z⟩
end
end DL
local macro_rules | `(tactic| walk_at "b") => `(tactic| first | exact DL.BinD.addI | exact DL.BinD.subI | exact DL.BinD.modI (by first | decide | omega) | exact DL.BinD.divI (by first | decide | (constructor <;> omega)) | exact DL.BinD.mulI (.inr (by decide)) | exact DL.BinD.mulI (.inl (by decide)) | exact DL.BinD.mulI (by first | (left; constructor <;> omega) | (right; constructor <;> omega)) | exact DL.BinD.addS (by assumption) | exact DL.BinD.catT (by assumption) (by assumption))
local macro_rules | `(tactic| walk_at "c") => `(tactic| first | exact DL.CmpD.lt | exact DL.CmpD.le | exact DL.CmpD.gt | exact DL.CmpD.ge | exact DL.CmpD.eqI | exact DL.CmpD.neI | exact DL.CmpD.eqS | exact DL.CmpD.neS | exact DL.CmpD.eqB | exact DL.CmpD.isN | exact DL.CmpD.notN)
local macro_rules | `(tactic| walk_at "i") => `(tactic| first | assumption | exact DL.IxD.lst rfl | exact DL.IxD.tup rfl | exact DL.IxD.scr (by assumption) | exact DL.IxD.lst (by assumption) | exact DL.IxD.tup (by assumption))
local macro_rules | `(tactic| walk_at "len") => `(tactic| first | exact DL.LenD.lst | exact DL.LenD.tup | exact DL.LenD.scr | exact DL.LenD.str (by assumption))

namespace Sm
open PySem L2 DL
/-- a net as the program looks at one: any tuples as steps -/
structure N3 where
  wide : Int
  steps : List (List Int)
  outs : List Int
def eS (s : List Int) : D := .tup (s.map .int)
def N3.e (n : N3) : D := .tup [.int n.wide, .lst (n.steps.map eS), .lst (n.outs.map .int)]
structure N3.fit (n : N3) : Prop where
  steps : n.steps.length ≤ 1000
  outs : n.outs.length ≤ 1000
  step : ∀ s ∈ n.steps, s.length ≤ 100
structure N3.ok (n : N3) : Prop where
  w1 : 1 ≤ n.wide
  w2 : n.wide ≤ 64
  ls : n.steps.length ≤ 500
  lo : (n.outs.length : Int) = n.wide
  st : ∀ (k : Nat) (s : List Int), n.steps[k]? = some s → s.length = 2 ∧ ∀ x ∈ s, 0 ≤ x ∧ x < n.wide + k
  os : ∀ o ∈ n.outs, 0 ≤ o ∧ o < n.wide + n.steps.length
/-- a right-made net -/
structure Nt where
  wide : Nat
  steps : List (Nat × Nat)
  outs : List Nat
def eN (n : Nat) : D := .int n
def eP (p : Nat × Nat) : D := .tup [.int p.1, .int p.2]
def Nt.e (n : Nt) : D := .tup [.int n.wide, .lst (n.steps.map eP), .lst (n.outs.map eN)]
structure Nt.good (n : Nt) : Prop where
  w1 : 1 ≤ n.wide
  w2 : n.wide ≤ 64
  ls : n.steps.length ≤ 500
  lo : n.outs.length = n.wide
  st : ∀ (k : Nat) (p : Nat × Nat), n.steps[k]? = some p → p.1 < n.wide + k ∧ p.2 < n.wide + k
  os : ∀ o ∈ n.outs, o < n.wide + n.steps.length
def Nt.n3 (n : Nt) : N3 := ⟨n.wide, n.steps.map fun p => [(p.1 : Int), (p.2 : Int)], n.outs.map fun o : Nat => (o : Int)⟩
theorem Nt.e_n3 (n : Nt) : n.n3.e = n.e := by
  unfold Nt.n3 N3.e Nt.e
  simp only [List.map_map]
  rfl
theorem Nt.good.fit {n : Nt} (h : n.good) : n.n3.fit where
  steps := by
    have := h.ls
    unfold Nt.n3
    rw [List.length_map]
    omega
  outs := by
    have h1 := h.lo
    have h2 := h.w2
    unfold Nt.n3
    rw [List.length_map]
    omega
  step := fun s hs => by
    obtain ⟨p, _, rfl⟩ := List.mem_map.mp hs
    show 2 ≤ 100
    omega
theorem Nt.good.ok {n : Nt} (h : n.good) : n.n3.ok where
  w1 := by have := h.w1; show (1 : Int) ≤ (n.wide : Int); omega
  w2 := by have := h.w2; show (n.wide : Int) ≤ 64; omega
  ls := by unfold Nt.n3; rw [List.length_map]; exact h.ls
  lo := by have := h.lo; show ((n.outs.map _).length : Int) = (n.wide : Int); rw [List.length_map]; omega
  st := fun k s hs => by
    have hs' : (n.steps.map fun p => [(p.1 : Int), (p.2 : Int)])[k]? = some s := hs
    rw [List.getElem?_map] at hs'
    cases e : n.steps[k]? with
    | none => rw [e] at hs'; cases hs'
    | some p =>
      rw [e] at hs'
      have hs'' : [(p.1 : Int), (p.2 : Int)] = s := Option.some.inj hs'
      subst hs''
      have := h.st k p e
      refine ⟨rfl, fun x hx => ?_⟩
      show 0 ≤ x ∧ x < (n.wide : Int) + k
      simp at hx
      omega
  os := fun o ho => by
    obtain ⟨p, hp, rfl⟩ := List.mem_map.mp ho
    have := h.os p hp
    show 0 ≤ (p : Int) ∧ (p : Int) < (n.wide : Int) + ((n.steps.map _).length : Nat)
    rw [List.length_map]
    omega
theorem N3.ok.nt {n : N3} (h : n.ok) : ∃ m : Nt, m.good ∧ m.n3 = n := by
  have two : ∀ (k : Nat) (s : List Int), n.steps[k]? = some s → ∃ a b : Nat, s = [(a : Int), (b : Int)] ∧ (a : Int) < n.wide + k ∧ (b : Int) < n.wide + k := fun k s hs => by
    obtain ⟨h1, h2⟩ := h.st k s hs
    match s, h1 with
    | [x, y], _ =>
      have hx := h2 x (by simp)
      have hy := h2 y (by simp)
      refine ⟨x.toNat, y.toNat, ?_, by omega, by omega⟩
      congr 1
      · omega
      · congr 1; omega
  have w1 := h.w1
  refine ⟨⟨n.wide.toNat, n.steps.map fun s => ((s.getD 0 0).toNat, (s.getD 1 0).toNat), n.outs.map Int.toNat⟩, ⟨by show 1 ≤ n.wide.toNat; omega, by have := h.w2; show n.wide.toNat ≤ 64; omega, by rw [List.length_map]; exact h.ls, by have := h.lo; rw [List.length_map]; show n.outs.length = n.wide.toNat; omega, fun k p hp => ?_, fun o ho => ?_⟩, ?_⟩
  · rw [List.getElem?_map] at hp
    cases e : n.steps[k]? with
    | none => rw [e] at hp; cases hp
    | some s =>
      rw [e] at hp
      obtain ⟨a, b, rfl, h1, h2⟩ := two k s e
      have hp' : (((a : Int)).toNat, ((b : Int)).toNat) = p := Option.some.inj hp
      subst hp'
      show (a : Int).toNat < n.wide.toNat + k ∧ (b : Int).toNat < n.wide.toNat + k
      omega
  · obtain ⟨x, hx, rfl⟩ := List.mem_map.mp ho
    have := h.os x hx
    show x.toNat < n.wide.toNat + (n.steps.map _).length
    rw [List.length_map]
    omega
  · unfold Nt.n3
    obtain ⟨w, st, os⟩ := n
    dsimp only at *
    congr 1
    · omega
    · rw [List.map_map]
      refine List.ext_getElem? fun k => ?_
      rw [List.getElem?_map]
      cases e : st[k]? with
      | none => rfl
      | some s =>
        obtain ⟨a, b, rfl, _, _⟩ := two k s e
        simp
    · rw [List.map_map]
      refine (List.map_congr_left fun x hx => ?_).trans (List.map_id _)
      have := h.os x hx
      show ((x.toNat : Nat) : Int) = x
      omega
theorem ix_lst {α : Type} (f : α → D) {l : List α} {i : Nat} (x : α) (h : i < l.length) : IxD (.lst (l.map f)) (.int (i : Nat)) (f (l.getD i x)) :=
  .lst (atI_map f (by rw [List.getD_eq_getElem?_getD, List.getElem?_eq_getElem h]; rfl))
theorem set_map {α : Type} (f : α → D) (l : List α) (i : Nat) (x : α) (d : D) (h : f x = d) : (l.map f).set i d = (l.set i x).map f := by
  rw [← h, List.map_set]
end Sm

namespace Sm
open PySem L2 DL
/-- told apart as values just where they differ -/
def Inj {α : Type} [DecidableEq α] (f : α → D) : Prop := ∀ x y, D.eqv (f x) (f y) = decide (x = y)
section
variable {α β : Type} [DecidableEq α] [DecidableEq β] {f : α → D} {g : β → D}
theorem eqv_int (i j : Int) : D.eqv (.int i) (.int j) = decide (i = j) := by
  unfold D.eqv; rw [D.py, D.py, PyData.eqv]; rfl
theorem eqv_bl (i j : Bool) : D.eqv (.bl i) (.bl j) = decide (i = j) := by
  unfold D.eqv; rw [D.py, D.py, PyData.eqv]; cases i <;> cases j <;> rfl
theorem eqv_str (i j : Str) : D.eqv (.str i) (.str j) = decide (i = j) := by
  unfold D.eqv; rw [D.py, D.py, PyData.eqv]
  by_cases h : i = j
  · rw [h]; simp
  · simp [h]
def eqvs : List D → List D → Bool
  | [], [] => true
  | x :: xs, y :: ys => D.eqv x y && eqvs xs ys
  | _, _ => false
theorem eqvs_py : ∀ xs ys : List D, PyData.eqvAll (D.pys xs) (D.pys ys) = eqvs xs ys
  | [], [] => rfl
  | [], _ :: _ => rfl
  | _ :: _, [] => rfl
  | x :: xs, y :: ys => by
    rw [D.pys, D.pys, PyData.eqvAll, eqvs_py xs ys]
    rfl
theorem eqv_lsts (xs ys : List D) : D.eqv (.lst xs) (.lst ys) = eqvs xs ys := by
  unfold D.eqv; rw [D.py, D.py, PyData.eqv, eqvs_py]
theorem eqv_tups (xs ys : List D) : D.eqv (.tup xs) (.tup ys) = eqvs xs ys := by
  unfold D.eqv; rw [D.py, D.py, PyData.eqv, eqvs_py]
theorem eqvs_map (h : Inj f) : ∀ l m : List α, eqvs (l.map f) (m.map f) = decide (l = m)
  | [], [] => rfl
  | [], _ :: _ => rfl
  | _ :: _, [] => rfl
  | x :: xs, y :: ys => by
    rw [List.map_cons, List.map_cons, eqvs, h, eqvs_map h xs ys]
    by_cases e : x = y
    · by_cases e2 : xs = ys <;> simp [e, e2]
    · simp [e]
theorem eqv_lst (h : Inj f) (l m : List α) : D.eqv (.lst (l.map f)) (.lst (m.map f)) = decide (l = m) := by rw [eqv_lsts, eqvs_map h]
theorem eqv_tup (h : Inj f) (l m : List α) : D.eqv (.tup (l.map f)) (.tup (m.map f)) = decide (l = m) := by rw [eqv_tups, eqvs_map h]
theorem inj_int : Inj D.int := eqv_int
theorem inj_bl : Inj D.bl := eqv_bl
theorem inj_str : Inj D.str := eqv_str
theorem inj_lst (h : Inj f) : Inj fun l : List α => D.lst (l.map f) := eqv_lst h
theorem inj_tup (h : Inj f) : Inj fun l : List α => D.tup (l.map f) := eqv_tup h
theorem inj_eN : Inj eN := fun x y => by
  unfold eN; rw [eqv_int, decide_eq_decide]
  omega
theorem inj_eS : Inj eS := inj_tup inj_int
theorem inj_eP : Inj eP := fun x y => by
  unfold eP
  rw [eqv_tups, eqvs, eqvs, eqvs, Bool.and_true]
  obtain ⟨a, b⟩ := x
  obtain ⟨c, d⟩ := y
  show (D.eqv (eN a) (eN c) && D.eqv (eN b) (eN d)) = _
  rw [inj_eN, inj_eN]
  by_cases h : a = c
  · by_cases h2 : b = d <;> simp [h, h2]
  · simp [h]
theorem inD_map (h : Inj f) (x : α) (l : List α) : inD (f x) (l.map f) = decide (x ∈ l) := by
  unfold inD
  induction l with
  | nil => simp
  | cons a l ih =>
    rw [List.map_cons, List.any_cons, ih, h]
    by_cases e : a = x
    · simp [e]
    · have e' : ¬ x = a := fun z => e z.symm
      simp [e, e']
/-- alike to itself -/
theorem eqv_self {n : Nat} {d : D} (h : Sh n d) : D.eqv d d = true := SeqAt.eqv_refl d.py (sh_py n d h).1
theorem sh_int (n : Nat) (i : Int) : Sh n (.int i) := by cases n <;> exact True.intro
theorem sh_bl (n : Nat) (i : Bool) : Sh n (.bl i) := by cases n <;> exact True.intro
theorem sh_non (n : Nat) : Sh n .non := by cases n <;> exact True.intro
theorem sh_eN (n x : Nat) : Sh n (eN x) := sh_int n x
theorem sh_lst {γ : Type} {f : γ → D} {n : Nat} {l : List γ} (h : ∀ x ∈ l, Sh n (f x)) : Sh (n + 1) (.lst (l.map f)) := fun y hy => by
  obtain ⟨x, hx, rfl⟩ := List.mem_map.mp hy
  exact h x hx
theorem sh_tup {γ : Type} {f : γ → D} {n : Nat} {l : List γ} (h : ∀ x ∈ l, Sh n (f x)) : Sh (n + 1) (.tup (l.map f)) := fun y hy => by
  obtain ⟨x, hx, rfl⟩ := List.mem_map.mp hy
  exact h x hx
theorem sh_nil {n : Nat} : ∀ x ∈ ([] : List D), Sh n x := fun _ h => nomatch h
theorem sh_cons {n : Nat} {d : D} {l : List D} (h : Sh n d) (h2 : ∀ x ∈ l, Sh n x) : ∀ x ∈ d :: l, Sh n x := fun x hx => by
  rcases List.mem_cons.mp hx with rfl | hx
  · exact h
  · exact h2 x hx
theorem sh_eP (n : Nat) (p : Nat × Nat) : Sh (n + 1) (eP p) := show ∀ x ∈ _, Sh n x from sh_cons (sh_int _ _) (sh_cons (sh_int _ _) sh_nil)
theorem sh_eS (n : Nat) (s : List Int) : Sh (n + 1) (eS s) := sh_tup fun x _ => sh_int n x
theorem sh_nt (n : Nat) (t : Nt) : Sh (n + 3) t.e := show ∀ x ∈ _, Sh (n + 2) x from sh_cons (sh_int _ _) (sh_cons (sh_lst fun p _ => sh_eP n p) (sh_cons (sh_lst fun x _ => sh_eN _ x) sh_nil))
theorem inj_nt (x y : Nt) : D.eqv x.e y.e = decide (x.wide = y.wide ∧ x.steps = y.steps ∧ x.outs = y.outs) := by
  unfold Nt.e
  rw [eqv_tups, eqvs, eqvs, eqvs, eqvs, eqv_lst inj_eP, eqv_lst inj_eN, Bool.and_true]
  show (D.eqv (eN x.wide) (eN y.wide) && _) = _
  rw [inj_eN]
  by_cases h1 : x.wide = y.wide
  · by_cases h2 : x.steps = y.steps
    · by_cases h3 : x.outs = y.outs <;> simp [h1, h2, h3]
    · simp [h1, h2]
  · simp [h1]
end
end Sm

namespace Wk
open PySem PySem.Spec PyProof.Rows L2 DL
def topS (i : Nat) : Stmt := PySem.Challenge.pw_sumspan_k42_whole_rounds.main.body.getD i (.Pass ⟨0, 0, 0, 0⟩)
/-- the built-ins are themselves -/
structure Bt (mg : Str → Option Value) : Prop where
  len : mg "len" = none
  range : mg "range" = none
  list : mg "list" = none
  tuple : mg "tuple" = none
  max : mg "max" = none
  min : mg "min" = none
  all : mg "all" = none
  any : mg "any" = none
  int : mg "int" = none
  str : mg "str" = none
  bool : mg "bool" = none
  isinstance : mg "isinstance" = none
  sorted : mg "sorted" = none
  set : mg "set" = none
  reversed : mg "reversed" = none
  VE : mg "ValueError" = none
end Wk

namespace Wk
open PySem PySem.Spec PyProof.Rows L2 DL Sm
abbrev sLook : Stmt := topS 10
theorem scLook : FnScope ["net", "wide", "steps", "outs", "k", "one", "out"] ["net"] (defScope sLook) := ⟨rfl, rfl, rfl, by decide +kernel, rfl, by decide +kernel, by decide +kernel⟩
def pre3 (cN : Addr) : List D → Res → Prop := fun ds r => ∃ n : N3, n.fit ∧ ds = [n.e] ∧ ((n.ok ∧ r = .ok .non) ∨ (¬ n.ok ∧ r = .er cN))
section
variable {Pg : Program} {w : World} {K : PySem.W.Frag} {mg : Str → Option Value} {base : Heap}
theorem fn_look3 {f : Addr} {fd : FuncData} (F : Fun K "look_net" "look_net" sLook f fd) (hb : Binds K fd ["net"] []) (hm : mg "look_net" = some (.ref f)) (T : Bt mg) {cN : Addr} (xBadNet : ExcOf K mg "BadNet" cN) {t1 t2 : Tok} (mMOST_WIDE : mg "MOST_WIDE" = some (.int 64 t1)) (mMOST_STEPS : mg "MOST_STEPS" = some (.int 500 t2)) :
    Fn Pg w K mg base "look_net" 1 1 (pre3 cN) := by
  refine fn_ok (ps := ["net"]) F scLook hb hm (fun ds r ⟨n, _, h, _⟩ => by rw [h]; rfl) (by decide) fun cdv A outer s H E C ds r ⟨n, hfit, hds, hr⟩ => ?_
  subst hds
  have bad : ¬ n.ok → r = .er cN := fun h => by
    rcases hr with ⟨z, _⟩ | ⟨_, z⟩
    · exact absurd z h
    · exact z
  have hl1 := hfit.steps
  have hl5 : n.outs.length ≤ sizeLine := Nat.le_trans hfit.outs (by decide)
  show JB _ _ _ ⟨[.d n.e, .u, .u, .u, .u, .u, .u], []⟩ _
  refine jb_cons (js_asg (je_var 0) (jg_n3 1 2 3 C ?_))
  refine jb_cons (js_if (jt_w (jw_or (jt_not (jt_chain C je_int (je_var 1) (by walk_at "c") (je_globI mMOST_WIDE) (by walk_at "c"))) (jw_or (jt_cmp C (je_len T.len (je_var 2) (by walk_at "len")) (je_globI mMOST_STEPS) (by walk_at "c")) (jw_or1 (jt_cmp C (je_len T.len (je_var 3) (by walk_at "len")) (je_var 1) (by walk_at "c")))))) (fun hb => ?_) (fun hb => ?_))
  · refine jb_cons (js_raise C xBadNet ?_)
    refine bad fun z => ?_
    have h1 := z.w1; have h2 := z.w2; have h3 := z.ls; have h4 := z.lo
    simp [h1, h2, h4] at hb
    omega
  have hb1 := hb
  refine jb_nil ?_
  refine jb_cons (js_for (fun i s' => (∀ (k : Nat) (s : List Int), k < i → n.steps[k]? = some s → s.length = 2 ∧ ∀ x ∈ s, 0 ≤ x ∧ x < n.wide + k) ∧ s' = ⟨[.d n.e, .d (.int n.wide), .d (.lst (n.steps.map eS)), .d (.lst (n.outs.map .int)), .u, .u, .u], []⟩) C (ji_range1 T.range (je_len T.len (je_var 2) (by walk_at "len")) ?_) ⟨fun _ _ h => absurd h (Nat.not_lt_zero _), rfl⟩ ?_ ?_)
  · rw [List.length_map]; omega
  · rintro i d s' hd ⟨h1, rfl⟩
    rw [List.length_map] at hd
    obtain ⟨hi, rfl⟩ := rng_get hd
    have hg : n.steps[i]? = some n.steps[i] := List.getElem?_eq_getElem hi
    have hix : IxD (.lst (n.steps.map eS)) (.int (i : Nat)) (eS n.steps[i]) := .lst (atI_map eS hg)
    have hl4 : n.steps[i].length ≤ sizeLine := Nat.le_trans (hfit.step _ (List.getElem_mem hi)) (by decide)
    refine jg_name 4 C.nd ?_
    refine jb_cons (js_if (jt_w (jw_or (jt_cmp C (je_len T.len (je_ix (je_var 2) (je_var 4) (by walk_at "i")) (by walk_at "len")) je_int (by walk_at "c")) (jw_or1 (jt_not (jt_val (je_allM C T.all (je_f (jf_lc C (lc_map 5 n.steps[i] C (ji_tup (je_ix (je_var 2) (je_var 4) (by walk_at "i"))) (fun a ha _ _ _ _ _ C => (je_chain' C je_int (je_var 5) (by walk_at "c") (je_bin (je_var 1) (je_var 4) (by walk_at "b")) (by walk_at "c")))))))))))) (fun hb => ?_) (fun hb => ?_))
    · refine jb_cons (js_raise C xBadNet ?_)
      refine bad fun z => ?_
      obtain ⟨z1, z2⟩ := z.st i _ hg
      simp [z1] at hb
      obtain ⟨x, hx, hxx⟩ := hb
      have := z2 x hx
      omega
    refine jb_nil ?_
    refine jb_fin (t := ⟨[.d n.e, .d (.int n.wide), .d (.lst (n.steps.map eS)), .d (.lst (n.outs.map .int)), .u, .u, .u], []⟩) ⟨fun k s hk hs => ?_, rfl⟩
    by_cases e : k = i
    · subst e
      rw [hg] at hs; cases hs
      simp at hb
      refine ⟨by omega, fun x hx => ?_⟩
      have := hb.2 x hx
      omega
    · exact h1 k s (by omega) hs
  · rintro s' ⟨h1, rfl⟩
    rw [List.length_map, List.length_range] at h1
    refine jb_cons (js_if (jt_not (jt_val (je_allM C T.all (je_f (jf_lc C (lc_map 6 n.outs C (ji_list (je_var 3)) (fun a ha _ _ _ _ _ C => (je_chain' C je_int (je_var 6) (by walk_at "c") (je_bin (je_var 1) (je_len T.len (je_var 2) (by walk_at "len")) (by walk_at "b")) (by walk_at "c"))))))))) (fun hb => ?_) (fun hb => ?_))
    · refine jb_cons (js_raise C xBadNet ?_)
      refine bad fun z => ?_
      simp at hb
      obtain ⟨x, hx, hxx⟩ := hb
      have := z.os x hx
      omega
    refine jb_nil (jb_nil ?_)
    rcases hr with ⟨_, z⟩ | ⟨z, _⟩
    · exact z
    · simp at hb hb1
      refine absurd ⟨by omega, by omega, by omega, by omega, fun k s hs => h1 k s (by rw [List.length_map]; exact (List.getElem?_eq_some_iff.mp hs).1) hs, fun o ho => ?_⟩ z
      have := hb o ho
      omega
/-- look_net of nets -/
def preLook (cN : Addr) : List D → Res → Prop := fun ds r => (∃ n : Nt, n.good ∧ ds = [n.e] ∧ r = .ok .non) ∨ ∃ n : N3, n.fit ∧ ¬ n.ok ∧ ds = [n.e] ∧ r = .er cN
theorem preLook_to {cN : Addr} {ds : List D} {r : Res} (h : preLook cN ds r) : pre3 cN ds r := by
  rcases h with ⟨n, hg, h1, h2⟩ | ⟨n, hf, hk, h1, h2⟩
  · exact ⟨n.n3, hg.fit, by rw [h1, n.e_n3], .inl ⟨hg.ok, h2⟩⟩
  · exact ⟨n, hf, h1, .inr ⟨hk, h2⟩⟩
end
/-- of a net f; BadNet of what is none -/
def preN (cN : Addr) (f : Nt → D) : List D → Res → Prop := fun ds r => (∃ n : Nt, n.good ∧ ds = [n.e] ∧ r = .ok (f n)) ∨ ∃ n : N3, n.fit ∧ ¬ n.ok ∧ ds = [n.e] ∧ r = .er cN
theorem preN_len {cN : Addr} {f : Nt → D} : ∀ ds r, preN cN f ds r → ds.length = 1 := fun ds r h => by
  rcases h with ⟨n, _, h, _⟩ | ⟨n, _, _, h, _⟩ <;> rw [h] <;> rfl
theorem n3_bad {n : N3} (h : ¬ ∃ m : Nt, m.good ∧ m.n3 = n) : ¬ n.ok := fun z => h z.nt
def preG (f : Nt → D) : List D → Res → Prop := fun ds r => ∃ n : Nt, n.good ∧ ds = [n.e] ∧ r = .ok (f n)
end Wk

namespace Sm
open PySem L2 DL
/-- a cell of the script -/
def cellI (ns : List Int) (k : Nat) : Int := if ns.isEmpty then 0 else ns.getD (k % ns.length) 0
def mixA (ns : List Int) (k : Nat) : Int := (cellI ns k + 104729 * ((k : Int) + 1)) % 4294967291 * 48271 % 4294967279
def mixI (ns : List Int) (k : Nat) : Int := (mixA ns k / 64 * 69621 + mixA ns k) % 4294967231
def mixN (ns : List Int) (k : Nat) : Nat := (mixI ns k).toNat
theorem mix_cast (ns : List Int) (k : Nat) : mixI ns k = (mixN ns k : Int) := by
  have : 0 ≤ mixI ns k := Int.emod_nonneg _ (by decide)
  unfold mixN
  omega
/-- a drawn step -/
def stepN (ns : List Int) (k wide j : Nat) : Nat × Nat :=
  ([mixN ns (k + 2 + j) / 64 % (wide + j) - 1, mixN ns (k + 2 + j) % (wide + j), mixN ns (k + 2 + j) / 64 % (wide + j), wide + j - 1].getD (mixN ns (k + 2 + j) / 4096 % 4) 0, mixN ns (k + 2 + j) / 64 % (wide + j))
def wideN (ns : List Int) (k most : Nat) : Nat := 1 + mixN ns k % most
def stepsN (ns : List Int) (k most : Nat) : List (Nat × Nat) := (List.range (mixN ns (k + 1) % 9)).map (stepN ns k (wideN ns k most))
def outsN (ns : List Int) (k most : Nat) : List Nat := (List.range (wideN ns k most)).map fun j => mixN ns (k + 12 + j) % (wideN ns k most + (stepsN ns k most).length)
/-- a drawn net -/
def netN (ns : List Int) (k most : Nat) : Nt := ⟨wideN ns k most, stepsN ns k most, outsN ns k most⟩
theorem wideN_le {ns : List Int} {k most : Nat} (h : 1 ≤ most) : 1 ≤ wideN ns k most ∧ wideN ns k most ≤ most := by
  have := Nat.mod_lt (mixN ns k) h
  unfold wideN
  omega
theorem stepsN_len (ns : List Int) (k most : Nat) : (stepsN ns k most).length = mixN ns (k + 1) % 9 := by
  unfold stepsN
  rw [List.length_map, List.length_range]
theorem getD4 {a b c d i m : Nat} (h : i < 4) (ha : a < m) (hb : b < m) (hc : c < m) (hd : d < m) : [a, b, c, d].getD i 0 < m := by
  match i, h with
  | 0, _ => exact ha
  | 1, _ => exact hb
  | 2, _ => exact hc
  | 3, _ => exact hd
theorem netN_good {ns : List Int} {k most : Nat} (h : 1 ≤ most) (h2 : most ≤ 64) : (netN ns k most).good := by
  obtain ⟨w1, w2⟩ := wideN_le (ns := ns) (k := k) h
  refine ⟨w1, by show wideN ns k most ≤ 64; omega, ?_, ?_, fun j p hp => ?_, fun o ho => ?_⟩
  · show (stepsN ns k most).length ≤ 500
    have := Nat.mod_lt (mixN ns (k + 1)) (show 9 > 0 by decide)
    rw [stepsN_len]
    omega
  · show (outsN ns k most).length = wideN ns k most
    unfold outsN
    rw [List.length_map, List.length_range]
  · have hp' : (stepsN ns k most)[j]? = some p := hp
    unfold stepsN at hp'
    rw [List.getElem?_map] at hp'
    cases e : (List.range (mixN ns (k + 1) % 9))[j]? with
    | none => rw [e] at hp'; cases hp'
    | some i =>
      rw [e] at hp'
      have hp'' : stepN ns k (wideN ns k most) i = p := Option.some.inj hp'
      have ei : i = j := by
        obtain ⟨_, h2⟩ := List.getElem?_eq_some_iff.mp e
        rw [List.getElem_range] at h2
        exact h2.symm
      subst ei
      rw [← hp'']
      have hpos : 0 < wideN ns k most + i := by omega
      have m1 := Nat.mod_lt (mixN ns (k + 2 + i) / 64) hpos
      have m2 := Nat.mod_lt (mixN ns (k + 2 + i)) hpos
      show _ < wideN ns k most + i ∧ _ < wideN ns k most + i
      refine ⟨getD4 (Nat.mod_lt _ (by decide)) (by omega) m2 m1 (by omega), m1⟩
  · have ho' : o ∈ outsN ns k most := ho
    unfold outsN at ho'
    obtain ⟨j, _, rfl⟩ := List.mem_map.mp ho'
    exact Nat.mod_lt _ (by show 0 < wideN ns k most + (stepsN ns k most).length; omega)
theorem netN_few {ns : List Int} {k most : Nat} : (netN ns k most).steps.length ≤ 8 := by
  show (stepsN ns k most).length ≤ 8
  have := Nat.mod_lt (mixN ns (k + 1)) (show 9 > 0 by decide)
  rw [stepsN_len]
  omega
theorem foldl_snoc {α β : Type} (f : α → β) (l : List α) : ∀ acc, l.foldl (fun b a => b ++ [f a]) acc = acc ++ l.map f := by
  induction l with
  | nil => intro acc; simp
  | cons a l ih => intro acc; rw [List.foldl_cons, ih, List.map_cons, List.append_assoc]; rfl
theorem ix_disp {ds : List D} {i : Nat} (h : i < ds.length) : IxD (.lst ds) (.int (i : Nat)) (ds.getD i .non) :=
  .lst (atI_nat (by rw [List.getD_eq_getElem?_getD, List.getElem?_eq_getElem h]; rfl))
end Sm

namespace Wk
open PySem PySem.Spec PyProof.Rows L2 DL Sm
section
variable {Pg : Program} {w : World} {K : PySem.W.Frag} {mg : Str → Option Value} {base : Heap}
abbrev sCell : Stmt := topS 24
theorem scCell : FnScope ["_law_script", "_law_k"] ["_law_script", "_law_k"] (defScope sCell) := ⟨rfl, rfl, rfl, by decide +kernel, rfl, by decide +kernel, by decide +kernel⟩
def preCell : List D → Res → Prop := fun ds r => ∃ (ns : List Int) (k : Nat), ds = [.scr ns, .int k] ∧ r = .ok (.int (cellI ns k))
theorem fn_cell {f : Addr} {fd : FuncData} (F : Fun K "_law_cell" "_law_cell" sCell f fd) (hb : Binds K fd ["_law_script", "_law_k"] []) (hm : mg "_law_cell" = some (.ref f)) (T : Bt mg) : Fn Pg w K mg base "_law_cell" 2 1 preCell := by
  refine fn_ok (ps := ["_law_script", "_law_k"]) F scCell hb hm (fun ds r ⟨ns, k, h, _⟩ => by rw [h]; rfl) (by decide) fun cdv A outer s H E C ds r h => ?_
  obtain ⟨ns, k, rfl, rfl⟩ := h
  show JB _ _ _ ⟨[.d (.scr ns), .d (.int k)], []⟩ _
  refine jb_cons (js_if (jt_tru (je_var 0)) (fun hb => ?_) (fun hb => ?_))
  · have hne : 0 < ns.length := by
      cases ns with
      | nil => cases hb
      | cons a l => exact Nat.succ_pos _
    have hx : L2.atI ns ((k : Int) % (ns.length : Int)) = some (ns.getD (k % ns.length) 0) := by
      have e : (k : Int) % (ns.length : Int) = ((k % ns.length : Nat) : Int) := rfl
      rw [e]
      have hlt := Nat.mod_lt k hne
      exact atI_nat (by rw [List.getD_eq_getElem?_getD, List.getElem?_eq_getElem hlt]; rfl)
    refine jb_cons (js_ret (je_ix (je_var 0) (je_bin (je_var 1) (je_len T.len (je_var 0) .scr) (.modI (by omega))) (.scr hx)) ?_)
    show Res.ok _ = Res.ok _
    rw [cellI, if_neg (by intro z; rw [List.isEmpty_iff] at z; rw [z] at hne; cases hne)]
  refine jb_nil ?_
  refine jb_cons (js_ret je_int ?_)
  show Res.ok _ = Res.ok _
  have : ns.isEmpty = true := by
    have h : (!ns.isEmpty) = false := hb
    simpa using h
  rw [cellI, if_pos this]
abbrev sMix : Stmt := topS 25
theorem scMix : FnScope ["_law_script", "_law_k", "_law_number"] ["_law_script", "_law_k"] (defScope sMix) := ⟨rfl, rfl, rfl, by decide +kernel, rfl, by decide +kernel, by decide +kernel⟩
def preMix : List D → Res → Prop := fun ds r => ∃ (ns : List Int) (k : Nat), ds = [.scr ns, .int k] ∧ r = .ok (.int (mixN ns k))
theorem fn_mix {f : Addr} {fd : FuncData} (F : Fun K "_law_mix" "_law_mix" sMix f fd) (hb : Binds K fd ["_law_script", "_law_k"] []) (hm : mg "_law_mix" = some (.ref f)) (T : Bt mg) (F_law_cell : Fn Pg w K mg base "_law_cell" 2 1 preCell) : Fn Pg w K mg base "_law_mix" 2 2 preMix := by
  refine fn_ok (ps := ["_law_script", "_law_k"]) F scMix hb hm (fun ds r ⟨ns, k, h, _⟩ => by rw [h]; rfl) (by decide) fun cdv A outer s H E C ds r h => ?_
  obtain ⟨ns, k, rfl, rfl⟩ := h
  show JB _ _ _ ⟨[.d (.scr ns), .d (.int k), .u], []⟩ _
  refine jb_cons (js_set 2 C (je_bin (je_bin (je_call C F_law_cell (by decide) (jd_cons (je_var 0) (jd_cons (je_var 1) jd_nil)) ⟨ns, k, rfl, rfl⟩) (je_bin je_int (je_bin (je_var 1) je_int (by walk_at "b")) (by walk_at "b")) (by walk_at "b")) je_int (by walk_at "b")) ?_)
  refine jb_cons (js_set 2 C (je_bin (je_bin (je_var 2) je_int (by walk_at "b")) je_int (by walk_at "b")) ?_)
  refine jb_cons (js_ret (je_bin (je_bin (je_bin (je_bin (je_var 2) je_int (by walk_at "b")) je_int (by walk_at "b")) (je_var 2) (by walk_at "b")) je_int (by walk_at "b")) ?_)
  show Res.ok _ = Res.ok (.int (mixI ns k))
  rw [mix_cast]
end
end Wk

namespace Sm
open PySem L2 DL
/-- stretches cut anywhere: the nodes that are told, the steps -/
structure CS where
  kv : List ((Nat × Nat) × Nat)
  st : List (Nat × Nat)
def look (kv : List ((Nat × Nat) × Nat)) (k : Nat × Nat) : Option Nat := (kv.find? fun p => decide (p.1 = k)).map (·.2)
def put (kv : List ((Nat × Nat) × Nat)) (k : Nat × Nat) (x : Nat) : List ((Nat × Nat) × Nat) :=
  if (kv.any fun p => decide (p.1 = k)) = true then kv.map (fun p => if p.1 = k then (p.1, x) else p) else kv ++ [(k, x)]
def keyN (k : Nat × Nat) : List Key := nkey [(k.1 : Int), (k.2 : Int)]
def encK (kv : List ((Nat × Nat) × Nat)) : List (List Key × D) := kv.map fun p => (keyN p.1, eN p.2)
theorem keyN_inj {a b : Nat × Nat} : keyN a = keyN b ↔ a = b := by
  obtain ⟨a1, a2⟩ := a
  obtain ⟨b1, b2⟩ := b
  constructor
  · intro h
    unfold keyN nkey at h
    simp only [List.map_cons, List.map_nil, List.cons.injEq, Sum.inl.injEq, and_true] at h
    have h1 : a1 = b1 := by omega
    have h2 : a2 = b2 := by omega
    rw [h1, h2]
  · intro h; rw [h]
theorem dval_enc (k : Nat × Nat) : ∀ kv, dval (encK kv) (keyN k) = (look kv k).map eN
  | [] => rfl
  | p :: kv => by
    have ih := dval_enc k kv
    unfold dval look encK at ih ⊢
    rw [List.map_cons, List.find?_cons, List.find?_cons]
    by_cases e : p.1 = k
    · have e2 : keyN p.1 = keyN k := keyN_inj.mpr e
      rw [decide_eq_true e, decide_eq_true e2]
      rfl
    · have e2 : ¬ keyN p.1 = keyN k := fun z => e (keyN_inj.mp z)
      rw [decide_eq_false e, decide_eq_false e2]
      exact ih
theorem dput_enc (k : Nat × Nat) (x : Nat) (kv) : dput (encK kv) (keyN k) (eN x) = encK (put kv k x) := by
  have ea : ((encK kv).any fun p => decide (p.1 = keyN k)) = kv.any fun p => decide (p.1 = k) := by
    unfold encK
    rw [List.any_map]
    congr 1
    funext p
    show decide (keyN p.1 = keyN k) = decide (p.1 = k)
    rw [decide_eq_decide]
    exact keyN_inj
  unfold dput put
  rw [ea]
  split
  · unfold encK
    rw [List.map_map, List.map_map]
    refine List.map_congr_left fun p _ => ?_
    show (if keyN p.1 = keyN k then _ else _) = _
    by_cases e : p.1 = k
    · rw [if_pos (keyN_inj.mpr e)]
      show _ = (fun p : (Nat × Nat) × Nat => (keyN p.1, eN p.2)) (if p.1 = k then (p.1, x) else p)
      rw [if_pos e]
    · rw [if_neg (fun z => e (keyN_inj.mp z))]
      show _ = (fun p : (Nat × Nat) × Nat => (keyN p.1, eN p.2)) (if p.1 = k then (p.1, x) else p)
      rw [if_neg e]
  · unfold encK
    rw [List.map_append]
    rfl
theorem look_put (k : Nat × Nat) (x : Nat) (kv) : look (put kv k x) k = some x := by
  unfold put
  split
  · rename_i h
    unfold look
    induction kv with
    | nil => simp at h
    | cons p kv ih =>
      rw [List.map_cons, List.find?_cons]
      by_cases e : p.1 = k
      · rw [if_pos e, decide_eq_true e]; rfl
      · rw [if_neg e, decide_eq_false e]
        refine ih ?_
        rw [List.any_cons, decide_eq_false e, Bool.false_or] at h
        exact h
  · rename_i h
    have h' : ∀ p ∈ kv, ¬ p.1 = k := fun p hp z => h (List.any_eq_true.mpr ⟨p, hp, decide_eq_true z⟩)
    clear h
    unfold look
    induction kv with
    | nil => simp
    | cons p kv ih =>
      rw [List.cons_append, List.find?_cons, decide_eq_false (h' p List.mem_cons_self)]
      exact ih fun q hq => h' q (List.mem_cons_of_mem _ hq)
theorem put_len (k : Nat × Nat) (x : Nat) (kv) : (put kv k x).length ≤ kv.length + 1 := by
  unfold put
  split
  · rw [List.length_map]; omega
  · rw [List.length_append]; exact Nat.le_refl _
theorem put_mem {k : Nat × Nat} {x : Nat} {kv} {q : (Nat × Nat) × Nat} (h : q ∈ put kv k x) : q ∈ kv ∨ q.2 = x := by
  unfold put at h
  split at h
  · obtain ⟨p, hp, rfl⟩ := List.mem_map.mp h
    by_cases e : p.1 = k
    · rw [if_pos e]; exact .inr rfl
    · rw [if_neg e]; exact .inl hp
  · rcases List.mem_append.mp h with h | h
    · exact .inl h
    · rw [List.mem_singleton.mp h]; exact .inr rfl
theorem look_mem {k : Nat × Nat} {x : Nat} {kv} (h : look kv k = some x) : ∃ q ∈ kv, q.2 = x := by
  unfold look at h
  cases e : kv.find? fun p => decide (p.1 = k) with
  | none => rw [e] at h; cases h
  | some q =>
    rw [e] at h
    exact ⟨q, List.mem_of_find?_eq_some e, Option.some.inj h⟩
/-- where a stretch is cut -/
def cutAt (ns : List Int) (k f l : Nat) : Nat := f + mixN ns (k + 7 * f + l) % (l - f)
/-- the last step of a stretch: a its first half's node, B what its second half came to -/
def cutS (wide f l a : Nat) (B : Nat × CS) : Nat × CS := (wide + B.2.st.length, ⟨put B.2.kv (f, l) (wide + B.2.st.length), B.2.st ++ [(a, B.1)]⟩)
def cutF (ns : List Int) (k wide : Nat) : Nat → Nat → Nat → CS → Nat × CS
  | 0, f, _, s => (f, s)
  | m + 1, f, l, s => if f = l then (f, s) else match look s.kv (f, l) with
    | some x => (x, s)
    | none => cutS wide f l (cutF ns k wide m f (cutAt ns k f l) s).1 (cutF ns k wide m (cutAt ns k f l + 1) l (cutF ns k wide m f (cutAt ns k f l) s).2)
theorem cutF_none {ns : List Int} {k wide m f l : Nat} {s : CS} (e : ¬ f = l) (el : look s.kv (f, l) = none) : cutF ns k wide (m + 1) f l s = cutS wide f l (cutF ns k wide m f (cutAt ns k f l) s).1 (cutF ns k wide m (cutAt ns k f l + 1) l (cutF ns k wide m f (cutAt ns k f l) s).2) := by
  rw [cutF, if_neg e, el]
structure CS.ok (wide : Nat) (s : CS) : Prop where
  st : ∀ (k : Nat) (p : Nat × Nat), s.st[k]? = some p → p.1 < wide + k ∧ p.2 < wide + k
  kv : ∀ q ∈ s.kv, q.2 < wide + s.st.length
  ln : s.kv.length ≤ s.st.length
theorem cutAt_lt {ns : List Int} {k f l : Nat} (h : f < l) : f ≤ cutAt ns k f l ∧ cutAt ns k f l < l := by
  have := Nat.mod_lt (mixN ns (k + 7 * f + l)) (show l - f > 0 by omega)
  unfold cutAt
  omega
theorem cutF_ok (ns : List Int) (k wide : Nat) : ∀ (m f l : Nat) (s : CS), l - f ≤ m → f ≤ l → l < wide → s.ok wide → (cutF ns k wide m f l s).2.ok wide ∧ (cutF ns k wide m f l s).1 < wide + (cutF ns k wide m f l s).2.st.length ∧ s.st.length ≤ (cutF ns k wide m f l s).2.st.length ∧ (cutF ns k wide m f l s).2.st.length ≤ s.st.length + (l - f)
  | 0, f, l, s, h1, h2, h3, h => ⟨h, by show f < _; omega, Nat.le_refl _, Nat.le_add_right _ _⟩
  | m + 1, f, l, s, h1, h2, h3, h => by
    by_cases e : f = l
    · have ec : cutF ns k wide (m + 1) f l s = (f, s) := by rw [cutF, if_pos e]
      rw [ec]
      exact ⟨h, by show f < _ + _; omega, Nat.le_refl _, Nat.le_add_right _ _⟩
    · cases el : look s.kv (f, l) with
      | some x =>
        have ec : cutF ns k wide (m + 1) f l s = (x, s) := by rw [cutF, if_neg e, el]
        rw [ec]
        obtain ⟨q, hq, e2⟩ := look_mem el
        exact ⟨h, by show x < _; rw [← e2]; exact h.kv q hq, Nat.le_refl _, Nat.le_add_right _ _⟩
      | none =>
        obtain ⟨c1, c2⟩ := cutAt_lt (ns := ns) (k := k) (show f < l by omega)
        obtain ⟨a1, a2, a3, a4⟩ := cutF_ok ns k wide m f (cutAt ns k f l) s (by omega) c1 (by omega) h
        obtain ⟨b1, b2, b3, b4⟩ := cutF_ok ns k wide m (cutAt ns k f l + 1) l (cutF ns k wide m f (cutAt ns k f l) s).2 (by omega) (by omega) h3 a1
        rw [cutF_none e el]
        revert b1 b2 b3 b4
        generalize cutF ns k wide m (cutAt ns k f l + 1) l (cutF ns k wide m f (cutAt ns k f l) s).2 = B
        revert a1 a2 a3 a4
        generalize cutF ns k wide m f (cutAt ns k f l) s = A
        intro a1 a2 a3 a4 b1 b2 b3 b4
        have eL : (cutS wide f l A.1 B).2.st.length = B.2.st.length + 1 := by
          show (B.2.st ++ [(A.1, B.1)]).length = _
          rw [List.length_append]
          rfl
        refine ⟨⟨fun j p hj => ?_, fun q hq => ?_, ?_⟩, ?_, ?_, ?_⟩
        · have hj : (B.2.st ++ [(A.1, B.1)])[j]? = some p := hj
          by_cases hl : j < B.2.st.length
          · rw [List.getElem?_append_left hl] at hj
            exact b1.st j p hj
          · rw [List.getElem?_append_right (by omega)] at hj
            cases e3 : j - B.2.st.length with
            | zero =>
              rw [e3] at hj
              have hj' : (A.1, B.1) = p := Option.some.inj hj
              subst hj'
              show A.1 < _ ∧ B.1 < _
              omega
            | succ i => rw [e3] at hj; cases hj
        · have hq : q ∈ put B.2.kv (f, l) (wide + B.2.st.length) := hq
          rw [eL]
          rcases put_mem hq with hq | hq
          · have := b1.kv q hq
            omega
          · omega
        · rw [eL]
          have h6 : (cutS wide f l A.1 B).2.kv.length ≤ B.2.kv.length + 1 := put_len (f, l) (wide + B.2.st.length) B.2.kv
          have := b1.ln
          omega
        · rw [eL]
          show wide + B.2.st.length < _
          omega
        · rw [eL]; omega
        · rw [eL]; omega
/-- a net of stretches from the first thing on -/
def rWide (ns : List Int) (k most : Nat) : Nat := 1 + mixN ns k % most
def rStep (ns : List Int) (k most : Nat) (s : CS) (l : Nat) : CS := (cutF ns (k + 1) (rWide ns k most) most 0 l s).2
def rOut (ns : List Int) (k most : Nat) (s : CS) (l : Nat) : Nat := (cutF ns (k + 1) (rWide ns k most) most 0 l s).1
def foldT {α β γ : Type} (g : γ → α → γ) (o : γ → α → β) : γ → List α → List β
  | _, [] => []
  | b, a :: l => o b a :: foldT g o (g b a) l
theorem foldO_map {α β γ : Type} (g : γ → α → γ) (o : γ → α → β) (f : β → D) : ∀ (l : List α) (b : γ), foldO g (fun b a => f (o b a)) b l = (foldT g o b l).map f
  | [], _ => rfl
  | a :: l, b => by rw [foldO, foldT, List.map_cons, foldO_map g o f l]
theorem foldT_len {α β γ : Type} (g : γ → α → γ) (o : γ → α → β) : ∀ (l : List α) (b : γ), (foldT g o b l).length = l.length
  | [], _ => rfl
  | _ :: l, b => by rw [foldT, List.length_cons, List.length_cons, foldT_len g o l]
def rEnd (ns : List Int) (k most : Nat) : CS := (List.range (rWide ns k most)).foldl (rStep ns k most) ⟨[], []⟩
def rightN (ns : List Int) (k most : Nat) : Nt := ⟨rWide ns k most, (rEnd ns k most).st, foldT (rStep ns k most) (rOut ns k most) ⟨[], []⟩ (List.range (rWide ns k most))⟩
theorem rWide_le {ns : List Int} {k most : Nat} (h : 1 ≤ most) : 1 ≤ rWide ns k most ∧ rWide ns k most ≤ most := by
  have := Nat.mod_lt (mixN ns k) h
  unfold rWide
  omega
theorem right_fold (ns : List Int) (k most : Nat) (h : 1 ≤ most) : ∀ (l : List Nat) (s : CS), (∀ x ∈ l, x < rWide ns k most) → s.ok (rWide ns k most) →
    (l.foldl (rStep ns k most) s).ok (rWide ns k most) ∧ s.st.length ≤ (l.foldl (rStep ns k most) s).st.length ∧ (l.foldl (rStep ns k most) s).st.length ≤ s.st.length + l.length * most ∧ ∀ o ∈ foldT (rStep ns k most) (rOut ns k most) s l, o < rWide ns k most + (l.foldl (rStep ns k most) s).st.length
  | [], s, _, h => ⟨h, Nat.le_refl _, by simp, fun _ z => nomatch z⟩
  | x :: l, s, hx, hs => by
    have hw := (rWide_le (ns := ns) (k := k) h).2
    have hx0 := hx x List.mem_cons_self
    obtain ⟨c1, c2, c3, c4⟩ := cutF_ok ns (k + 1) (rWide ns k most) most 0 x s (by omega) (Nat.zero_le _) hx0 hs
    obtain ⟨d1, d2, d3, d4⟩ := right_fold ns k most h l (rStep ns k most s x) (fun y hy => hx y (List.mem_cons_of_mem _ hy)) c1
    have e1 : (rStep ns k most s x).st.length ≤ s.st.length + x := by unfold rStep; omega
    have e2 : s.st.length ≤ (rStep ns k most s x).st.length := c3
    rw [List.foldl_cons]
    refine ⟨d1, by omega, ?_, fun o ho => ?_⟩
    · rw [List.length_cons, Nat.succ_mul]
      omega
    · rcases List.mem_cons.mp ho with rfl | ho
      · have : rOut ns k most s x < rWide ns k most + (rStep ns k most s x).st.length := c2
        omega
      · exact d4 o ho
theorem rightN_good {ns : List Int} {k most : Nat} (h : 1 ≤ most) (h2 : most ≤ 20) : (rightN ns k most).good ∧ (rightN ns k most).steps.length ≤ most * most := by
  obtain ⟨w1, w2⟩ := rWide_le (ns := ns) (k := k) h
  obtain ⟨d1, _, d3, d4⟩ := right_fold ns k most h (List.range (rWide ns k most)) ⟨[], []⟩ (fun x hx => List.mem_range.mp hx) ⟨(fun j p e => by simp at e), (fun q hq => nomatch hq), Nat.le_refl _⟩
  rw [List.length_range] at d3
  have d3' : (rEnd ns k most).st.length ≤ rWide ns k most * most := by
    have : (rEnd ns k most).st.length ≤ 0 + rWide ns k most * most := d3
    omega
  have m1 : rWide ns k most * most ≤ most * most := Nat.mul_le_mul_right _ w2
  have m2 : most * most ≤ 20 * 20 := Nat.mul_le_mul h2 h2
  refine ⟨⟨w1, by show rWide ns k most ≤ 64; omega, by show (rEnd ns k most).st.length ≤ 500; omega, ?_, d1.st, d4⟩, by show (rEnd ns k most).st.length ≤ _; omega⟩
  show (foldT _ _ _ _).length = rWide ns k most
  rw [foldT_len, List.length_range]
end Sm

namespace Sm
open PySem L2 DL
abbrev Ps := List (Nat × Nat)
/-- the nodes of n steps more -/
def nodesS (w : Nat) (st : Ps) (n : Nat) : List Nat := (List.range n).map fun i => w + st.length + i
theorem nodesS_len (w : Nat) (st : Ps) (n : Nat) : (nodesS w st n).length = n := by rw [nodesS, List.length_map, List.length_range]
theorem nodesS_succ (w : Nat) (st : Ps) (p : Nat × Nat) (n : Nat) : (w + st.length) :: nodesS w (st ++ [p]) n = nodesS w st (n + 1) := by
  unfold nodesS
  rw [List.range_succ_eq_map, List.map_cons, List.map_map]
  congr 1
  refine List.map_congr_left fun i _ => ?_
  rw [List.length_append]
  show w + (st.length + 1) + i = w + st.length + (i + 1)
  omega
def addS {α : Type} (g : α → Nat × Nat) (st : Ps) (k : α) : Ps := st ++ [g k]
theorem addS_fold {α : Type} (g : α → Nat × Nat) : ∀ (ks : List α) (st : Ps), ks.foldl (addS g) st = st ++ ks.map g := fun ks st => foldl_snoc g ks st
theorem nodeS_fold {α : Type} (g : α → Nat × Nat) (w : Nat) : ∀ (ks : List α) (st : Ps), foldO (addS g) (fun st _ => eN (w + st.length)) st ks = (nodesS w st ks.length).map eN
  | [], _ => rfl
  | k :: ks, st => by
    rw [foldO, nodeS_fold g w ks, List.length_cons, ← nodesS_succ w st (g k) ks.length, List.map_cons]
    rfl
/-- a node more, a step more -/
def pairS {α : Type} (w : Nat) (g : α → Nat × Nat) (p : List Nat × Ps) (k : α) : List Nat × Ps := (p.1 ++ [w + p.2.length], p.2 ++ [g k])
theorem pair_fold {α : Type} (w : Nat) (g : α → Nat × Nat) : ∀ (ks : List α) (l : List Nat) (st : Ps), ks.foldl (pairS w g) (l, st) = (l ++ nodesS w st ks.length, st ++ ks.map g)
  | [], l, st => by simp [nodesS]
  | k :: ks, l, st => by
    rw [List.foldl_cons]
    show ks.foldl (pairS w g) (l ++ [w + st.length], st ++ [g k]) = _
    rw [pair_fold w g ks, List.length_cons, ← nodesS_succ w st (g k) ks.length, List.map_cons, List.append_assoc, List.append_assoc]
    rfl
def lastN (l : List Nat) : Nat := l.getD (l.length - 1) 0
/-- one behind the other -/
def linF (w : Nat) (p : List Nat × Ps) (one : Nat) : List Nat × Ps := if p.1 = [] then (p.1 ++ [one], p.2) else (p.1 ++ [w + p.2.length], p.2 ++ [(lastN p.1, one)])
def lineF (w : Nat) (so : List Nat) (st : Ps) : List Nat × Ps := so.foldl (linF w) ([], st)
theorem linF_len (w : Nat) (p : List Nat × Ps) (one : Nat) : (linF w p one).1.length = p.1.length + 1 ∧ (linF w p one).2.length ≤ p.2.length + 1 := by
  unfold linF
  split
  · exact ⟨by rw [List.length_append]; rfl, Nat.le_succ _⟩
  · exact ⟨by rw [List.length_append]; rfl, by rw [List.length_append]; exact Nat.le_refl _⟩
/-- by halves -/
def joinH (w : Nat) (A : List Nat) (B : List Nat × Ps) : List Nat × Ps := (A ++ nodesS w B.2 B.1.length, B.2 ++ B.1.map fun one => (lastN A, one))
def halvesF (w : Nat) : Nat → List Nat → Ps → List Nat × Ps
  | 0, so, st => (so, st)
  | m + 1, so, st => if so.length < 2 then (so, st) else joinH w (halvesF w m (so.take ((so.length + 1) / 2)) st).1 (halvesF w m (so.drop ((so.length + 1) / 2)) (halvesF w m (so.take ((so.length + 1) / 2)) st).2)
theorem halves_len (w : Nat) : ∀ (m : Nat) (so : List Nat) (st : Ps), (halvesF w m so st).1.length = so.length ∧ (halvesF w m so st).2.length ≤ st.length + m * so.length
  | 0, so, st => ⟨rfl, Nat.le_add_right _ _⟩
  | m + 1, so, st => by
    unfold halvesF
    split
    · exact ⟨rfl, Nat.le_add_right _ _⟩
    · obtain ⟨a1, a2⟩ := halves_len w m (so.take ((so.length + 1) / 2)) st
      obtain ⟨b1, b2⟩ := halves_len w m (so.drop ((so.length + 1) / 2)) (halvesF w m (so.take ((so.length + 1) / 2)) st).2
      unfold joinH
      rw [List.length_take] at a1 a2
      rw [List.length_drop] at b1 b2
      refine ⟨?_, ?_⟩
      · dsimp only
        rw [List.length_append, nodesS_len, a1, b1]
        omega
      · dsimp only
        rw [List.length_append, List.length_map, b1, Nat.succ_mul]
        have e : m * so.length = m * min ((so.length + 1) / 2) so.length + m * (so.length - (so.length + 1) / 2) := by
          rw [← Nat.mul_add]
          congr 1
          omega
        omega
/-- by strides -/
def stepSt (f : List Nat) (s i : Nat) : Nat × Nat := (f.getD (s + i - s) 0, f.getD (s + i) 0)
def strideF (w n : Nat) : Nat → Nat → List Nat → Ps → List Nat × Ps
  | 0, _, f, st => (f, st)
  | m + 1, s, f, st => if s < n then strideF w n m (2 * s) (f.take s ++ nodesS w st (n - s)) (st ++ (List.range (n - s)).map (stepSt f s)) else (f, st)
/-- up and down -/
def upSt (so : List Nat) (i : Nat) : Nat × Nat := (so.getD (2 * i) 0, so.getD (2 * i + 1) 0)
def upF (w : Nat) (so sums : List Nat) (p : List Nat × Ps) (i : Nat) : List Nat × Ps :=
  if (1 + i) % 2 = 1 then (p.1 ++ [sums.getD ((1 + i) / 2) 0], p.2) else (p.1 ++ [w + p.2.length], p.2 ++ [(sums.getD ((1 + i) / 2 - 1) 0, so.getD (1 + i) 0)])
def upEnd (w : Nat) (so : List Nat) (S : List Nat × Ps) : List Nat × Ps := (List.range (so.length - 1)).foldl (upF w so S.1) ([so.getD 0 0], S.2)
def updownF (w : Nat) : Nat → List Nat → Ps → List Nat × Ps
  | 0, so, st => (so, st)
  | m + 1, so, st => if so.length < 2 then (so, st) else upEnd w so (updownF w m (nodesS w st (so.length / 2)) (st ++ (List.range (so.length / 2)).map (upSt so)))
theorem upF_len (w : Nat) (so sums : List Nat) (p : List Nat × Ps) (i : Nat) : (upF w so sums p i).1.length = p.1.length + 1 ∧ (upF w so sums p i).2.length ≤ p.2.length + 1 - (1 + i) % 2 := by
  unfold upF
  split
  · rename_i h
    exact ⟨by rw [List.length_append]; rfl, by rw [h]; exact Nat.le_refl _⟩
  · rename_i h
    have h : (1 + i) % 2 = 0 := by omega
    exact ⟨by rw [List.length_append]; rfl, by rw [h, List.length_append]; exact Nat.le_refl _⟩
theorem ups_len (w : Nat) (so sums : List Nat) (p : List Nat × Ps) : ∀ m : Nat, ((List.range m).foldl (upF w so sums) p).1.length = p.1.length + m ∧ ((List.range m).foldl (upF w so sums) p).2.length ≤ p.2.length + m / 2
  | 0 => ⟨rfl, Nat.le_add_right _ _⟩
  | m + 1 => by
    obtain ⟨a1, a2⟩ := ups_len w so sums p m
    rw [List.range_succ, List.foldl_append]
    obtain ⟨b1, b2⟩ := upF_len w so sums ((List.range m).foldl (upF w so sums) p) m
    refine ⟨by show (upF w so sums _ m).1.length = _; rw [b1, a1]; omega, ?_⟩
    show (upF w so sums _ m).2.length ≤ _
    omega
theorem updown_len (w : Nat) : ∀ (m : Nat) (so : List Nat) (st : Ps), (updownF w m so st).1.length = so.length ∧ (updownF w m so st).2.length ≤ st.length + m * so.length
  | 0, so, st => ⟨rfl, Nat.le_add_right _ _⟩
  | m + 1, so, st => by
    unfold updownF
    split
    · exact ⟨rfl, Nat.le_add_right _ _⟩
    · obtain ⟨a1, a2⟩ := updown_len w m (nodesS w st (so.length / 2)) (st ++ (List.range (so.length / 2)).map (upSt so))
      unfold upEnd
      obtain ⟨b1, b2⟩ := ups_len w so (updownF w m (nodesS w st (so.length / 2)) (st ++ (List.range (so.length / 2)).map (upSt so))).1 ([so.getD 0 0], (updownF w m (nodesS w st (so.length / 2)) (st ++ (List.range (so.length / 2)).map (upSt so))).2) (so.length - 1)
      rw [List.length_append, List.length_map, List.length_range, nodesS_len] at a2
      refine ⟨?_, ?_⟩
      · rw [b1]
        show 1 + _ = _
        omega
      · have e : m * (so.length / 2) ≤ m * so.length := Nat.mul_le_mul_left _ (by omega)
        rw [Nat.succ_mul]
        dsimp only at b2
        omega
/-- the known nets -/
def kn (j w : Nat) : List Nat × Ps := match j with
  | 0 => lineF w (List.range w) []
  | 1 => halvesF w 6 (List.range w) []
  | 2 => strideF w w w 1 (List.range w) []
  | _ => updownF w 6 (List.range w) []
def knownN (j w : Nat) : Nt := ⟨w, (kn j w).2, (kn j w).1⟩
def wordS (j : Nat) : Str := ["line", "halves", "strides", "updown"].getD j ""
/-! ### looked at -/
def stB (w : Nat) : Nat → Ps → Bool
  | _, [] => true
  | k, p :: r => (decide (p.1 < w + k) && decide (p.2 < w + k)) && stB w (k + 1) r
def goodB (n : Nt) : Bool := (decide (1 ≤ n.wide) && decide (n.wide ≤ 64)) && ((decide (n.steps.length ≤ 500) && decide (n.outs.length = n.wide)) && (stB n.wide 0 n.steps && n.outs.all fun o => decide (o < n.wide + n.steps.length)))
theorem stB_ok {w : Nat} : ∀ {k : Nat} {l : Ps}, stB w k l = true → ∀ (i : Nat) (p : Nat × Nat), l[i]? = some p → p.1 < w + (k + i) ∧ p.2 < w + (k + i)
  | k, [], _, i, p, e => by simp at e
  | k, q :: r, h, 0, p, e => by
    have e : q = p := by simpa using e
    subst e
    rw [stB, Bool.and_eq_true, Bool.and_eq_true] at h
    exact ⟨of_decide_eq_true h.1.1, of_decide_eq_true h.1.2⟩
  | k, q :: r, h, i + 1, p, e => by
    rw [stB, Bool.and_eq_true] at h
    have := stB_ok h.2 i p (by simpa using e)
    omega
theorem goodB_ok {n : Nt} (h : goodB n = true) : n.good := by
  unfold goodB at h
  simp only [Bool.and_eq_true] at h
  obtain ⟨⟨h1, h2⟩, ⟨h3, h4⟩, h5, h6⟩ := h
  refine ⟨of_decide_eq_true h1, of_decide_eq_true h2, of_decide_eq_true h3, of_decide_eq_true h4, fun k p hp => ?_, fun o ho => of_decide_eq_true (List.all_eq_true.mp h6 o ho)⟩
  have := stB_ok h5 k p hp
  omega
/-- the least depth -/
def ldF (w : Nat) : Nat → Nat → Nat → Nat
  | 0, _, found => found
  | m + 1, many, found => if many < w then ldF w m (2 * many) (found + 1) else found
def leastD (w : Nat) : Nat := ldF w w 1 0
end Sm

namespace Wk
open PySem PySem.Spec PyProof.Rows L2 DL Sm
section
variable {Pg : Program} {w : World} {K : PySem.W.Frag} {mg : Str → Option Value} {base : Heap}
abbrev sCut : Stmt := topS 28
theorem scCut : FnScope ["_law_first", "_law_last", "_law_script", "_law_k", "_law_nodes", "_law_steps", "_law_wide", "_law_cut_here", "_law_one", "_law_other"] ["_law_first", "_law_last", "_law_script", "_law_k", "_law_nodes", "_law_steps", "_law_wide"] (defScope sCut) := ⟨rfl, rfl, rfl, by decide +kernel, rfl, by decide +kernel, by decide +kernel⟩
def clCut (s : CS) : List Cl := [.dic (encK s.kv), .lst (s.st.map eP)]
def preCut (m : Nat) : List Sl → List Cl → Res → List Cl → Prop := fun sls cl r cl' => ∃ (ns : List Int) (k wide f l : Nat) (s : CS), s.ok wide ∧ f ≤ l ∧ l < wide ∧ wide ≤ 64 ∧ s.st.length + (l - f) ≤ 1000 ∧ l - f ≤ m ∧ sls = [.d (.int f), .d (.int l), .d (.scr ns), .d (.int k), .c 0, .c 1, .d (.int wide)] ∧ cl = clCut s ∧ r = .ok (eN (cutF ns k wide m f l s).1) ∧ cl' = clCut (cutF ns k wide m f l s).2
theorem fn_cut {f : Addr} {fd : FuncData} (F : Fun K "_law_cut" "_law_cut" sCut f fd) (hb : Binds K fd ["_law_first", "_law_last", "_law_script", "_law_k", "_law_nodes", "_law_steps", "_law_wide"] []) (hm : mg "_law_cut" = some (.ref f)) (T : Bt mg) (F_law_mix : Fn Pg w K mg base "_law_mix" 2 2 preMix) : ∀ m, FnC Pg w K mg base "_law_cut" 7 2 (3 + m) (preCut m) := by
  intro m
  induction m with
  | zero =>
    refine fn_okC (k := 2) (ps := ["_law_first", "_law_last", "_law_script", "_law_k", "_law_nodes", "_law_steps", "_law_wide"]) F scCut hb hm (fun sls cl r cl' ⟨ns, k, wide, f, l, s, _, _, _, _, _, _, h, _⟩ => by rw [h]; rfl) (by decide) fun cdv A outer s H E C sls cl r cl' _ h => ?_
    obtain ⟨ns, k, wide, f, l, s, hs, h1, h2, h3, h4, h5, rfl, rfl, rfl, rfl⟩ := h
    have e : f = l := by omega
    subst e
    show JB _ _ _ ⟨[.d (.int f), .d (.int f), .d (.scr ns), .d (.int k), .c 0, .c 1, .d (.int wide), .u, .u, .u], [.dic (encK s.kv), .lst (s.st.map eP)]⟩ _
    refine jb_cons (js_if (jt_cmp C (je_var 0) (je_var 1) (by walk_at "c")) (fun hb => ?_) (fun hb => ?_))
    · exact jb_cons (js_ret (je_var 0) ⟨rfl, rfl⟩)
    · have := of_decide_eq_false hb
      exact absurd rfl this
  | succ m ih =>
    refine fn_okC (k := 3 + m) (ps := ["_law_first", "_law_last", "_law_script", "_law_k", "_law_nodes", "_law_steps", "_law_wide"]) F scCut hb hm (fun sls cl r cl' ⟨ns, k, wide, f, l, s, _, _, _, _, _, _, h, _⟩ => by rw [h]; rfl) (by decide) fun cdv A outer s H E C sls cl r cl' _ h => ?_
    obtain ⟨ns, k, wide, f, l, s, hs, h1, h2, h3, h4, h5, rfl, rfl, rfl, rfl⟩ := h
    show JB _ _ _ ⟨[.d (.int f), .d (.int l), .d (.scr ns), .d (.int k), .c 0, .c 1, .d (.int wide), .u, .u, .u], [.dic (encK s.kv), .lst (s.st.map eP)]⟩ _
    refine jb_cons (js_if (jt_cmp C (je_var 0) (je_var 1) (by walk_at "c")) (fun hb => ?_) (fun hb => ?_))
    · have e : f = l := by have := of_decide_eq_true hb; omega
      have ec : cutF ns k wide (m + 1) f l s = (f, s) := by rw [cutF, if_pos e]
      exact jb_cons (js_ret (je_var 0) ⟨by rw [ec]; rfl, by rw [ec]; rfl⟩)
    have e : ¬ f = l := by have := of_decide_eq_false hb; omega
    have hlt : f < l := by omega
    refine jb_nil ?_
    have kn : keyN (f, l) = nkey [(f : Int), (l : Int)] := rfl
    refine jb_cut (fun s' => s' = ⟨[.d (.int f), .d (.int l), .d (.scr ns), .d (.int k), .c 0, .c 1, .d (.int wide), .u, .u, .u], clCut (cutF ns k wide (m + 1) f l s).2⟩ ∧ look (cutF ns k wide (m + 1) f l s).2.kv (f, l) = some (cutF ns k wide (m + 1) f l s).1)
      (js_if (jt_dnin (ns := [(f : Int), (l : Int)]) 4 C (jd_cons (je_var 0) (jd_cons (je_var 1) jd_nil))) (fun hb => ?_) (fun hb => ?_)) ?_
    · rw [← kn, dval_enc] at hb
      have el : look s.kv (f, l) = none := by
        cases q : look s.kv (f, l) with
        | none => rfl
        | some x => rw [q] at hb; cases hb
      obtain ⟨c1, c2⟩ := cutAt_lt (ns := ns) (k := k) hlt
      obtain ⟨a1, a2, a3, a4⟩ := cutF_ok ns k wide m f (cutAt ns k f l) s (by omega) c1 (by omega) hs
      obtain ⟨b1, b2, b3, b4⟩ := cutF_ok ns k wide m (cutAt ns k f l + 1) l (cutF ns k wide m f (cutAt ns k f l) s).2 (by omega) (by omega) h2 a1
      rw [cutF_none e el]
      have e0 : ((cutAt ns k f l : Nat) : Int) + 1 = ((cutAt ns k f l + 1 : Nat) : Int) := rfl
      refine jb_cons (js_set 7 C (je_as (je_bin (je_var 0) (je_bin (je_call C F_law_mix (by omega) (jd_cons (je_var 2) (jd_cons (je_as (je_bin (je_bin (je_var 3) (je_bin je_int (je_var 0) (by walk_at "b")) (by walk_at "b")) (je_var 1) (by walk_at "b")) (show _ = D.int ((k + 7 * f + l : Nat) : Int) from rfl)) jd_nil)) ⟨ns, k + 7 * f + l, rfl, rfl⟩) (je_bin (je_var 1) (je_var 0) (by walk_at "b")) (.modI (by omega))) (by walk_at "b")) (show _ = D.int ((cutAt ns k f l : Nat) : Int) by
        show D.int _ = D.int _
        congr 1
        unfold cutAt
        rw [Int.natCast_add, Int.natCast_emod, Int.ofNat_sub (by omega)])) ?_)
      refine jb_cons (js_set 8 C (je_callC C ih (Nat.le_refl _) (ja_val (je_var 0) (ja_val (je_var 7) (ja_val (je_var 2) (ja_val (je_var 3) (ja_cell 4 (ja_cell 5 (ja_val (je_var 6) ja_nil))))))) ⟨ns, k, wide, f, cutAt ns k f l, s, hs, c1, by omega, h3, by omega, by omega, rfl, rfl, rfl, rfl⟩) ?_)
      refine jb_cons (js_set 9 C (je_callC C ih (Nat.le_refl _) (ja_val (je_as (je_bin (je_var 7) je_int (by walk_at "b")) (congrArg D.int e0)) (ja_val (je_var 1) (ja_val (je_var 2) (ja_val (je_var 3) (ja_cell 4 (ja_cell 5 (ja_val (je_var 6) ja_nil))))))) ⟨ns, k, wide, cutAt ns k f l + 1, l, (cutF ns k wide m f (cutAt ns k f l) s).2, a1, by omega, h2, h3, by omega, by omega, rfl, rfl, rfl, rfl⟩) ?_)
      revert b1 b2 b3 b4
      generalize cutF ns k wide m (cutAt ns k f l + 1) l (cutF ns k wide m f (cutAt ns k f l) s).2 = Bc
      intro b1 b2 b3 b4
      refine jb_cons (js_app 5 1 (je_tup (jd_cons (je_var 8) (jd_cons (je_var 9) jd_nil))) ?_ ?_)
      · rw [List.length_map, sizeLine_eq]; omega
      refine jb_cons (js_dput (ns := [(f : Int), (l : Int)]) 4 0 C (je_as (je_view (je_bin (je_bin (je_var 6) (je_len T.len (je_var 5) (by walk_at "len")) (by walk_at "b")) je_int (by walk_at "b"))) (show _ = eN (wide + Bc.2.st.length) by
        rw [List.length_append, List.length_map]
        show D.int _ = D.int _
        congr 1
        show (wide : Int) + ((Bc.2.st.length + 1 : Nat) : Int) - 1 = _
        omega)) (jd_cons (je_var 0) (jd_cons (je_var 1) jd_nil)) ?_ ?_)
      · unfold encK
        rw [List.length_map, sizeLine_eq]
        have := b1.ln
        omega
      rw [← kn, dput_enc]
      refine jb_fin (t := ⟨[.d (.int f), .d (.int l), .d (.scr ns), .d (.int k), .c 0, .c 1, .d (.int wide), .u, .u, .u], _⟩) ⟨rfl, look_put _ _ _⟩ ?_
      show ([.dic (encK (put Bc.2.kv (f, l) (wide + Bc.2.st.length))), .lst (Bc.2.st.map eP ++ [eP ((cutF ns k wide m f (cutAt ns k f l) s).1, Bc.1)])] : List Cl) = [.dic _, .lst ((Bc.2.st ++ [((cutF ns k wide m f (cutAt ns k f l) s).1, Bc.1)]).map eP)]
      rw [List.map_append]
      rfl
    · rw [← kn, dval_enc] at hb
      cases el : look s.kv (f, l) with
      | none => rw [el] at hb; cases hb
      | some x =>
        have ec : cutF ns k wide (m + 1) f l s = (x, s) := by rw [cutF, if_neg e, el]
        rw [ec]
        exact jb_nil ⟨rfl, el⟩
    · rintro s' ⟨rfl, hlook⟩
      refine jb_cons (js_ret (je_dget (ns := [(f : Int), (l : Int)]) 4 C (jd_cons (je_var 0) (jd_cons (je_var 1) jd_nil)) (by rw [← kn, dval_enc, hlook]; rfl)) ⟨rfl, rfl⟩)
abbrev sRight : Stmt := topS 29
theorem scRight : FnScope ["_law_script", "_law_k", "_law_most", "_law_wide", "_law_nodes", "_law_steps", "_law_last", "_law_outs"] ["_law_script", "_law_k", "_law_most"] (defScope sRight) := ⟨rfl, rfl, rfl, by decide +kernel, rfl, by decide +kernel, by decide +kernel⟩
def preRight : List D → Res → Prop := fun ds r => ∃ (ns : List Int) (k most : Nat), ds = [.scr ns, .int k, .int most] ∧ 1 ≤ most ∧ most ≤ 20 ∧ r = .ok (rightN ns k most).e
theorem fn_right {f : Addr} {fd : FuncData} (F : Fun K "_law_right" "_law_right" sRight f fd) (hb : Binds K fd ["_law_script", "_law_k", "_law_most"] []) (hm : mg "_law_right" = some (.ref f)) (T : Bt mg) (F_law_mix : Fn Pg w K mg base "_law_mix" 2 2 preMix) (F_law_cut : ∀ m, FnC Pg w K mg base "_law_cut" 7 2 (3 + m) (preCut m)) : Fn Pg w K mg base "_law_right" 3 24 preRight := by
  refine fn_ok (ps := ["_law_script", "_law_k", "_law_most"]) F scRight hb hm (fun ds r ⟨ns, k, m, h, _⟩ => by rw [h]; rfl) (by decide) fun cdv A outer s H E C ds r h => ?_
  obtain ⟨ns, k, most, rfl, m1, m2, rfl⟩ := h
  obtain ⟨w1, w2⟩ := rWide_le (ns := ns) (k := k) m1
  show JB _ _ _ ⟨[.d (.scr ns), .d (.int k), .d (.int most), .u, .u, .u, .u, .u], []⟩ _
  refine jb_cons (js_set 3 C (je_as (je_bin je_int (je_bin (je_call C F_law_mix (by decide) (jd_cons (je_var 0) (jd_cons (je_var 1) jd_nil)) ⟨ns, k, rfl, rfl⟩) (je_var 2) (by walk_at "b")) (by walk_at "b")) (show _ = D.int ((rWide ns k most : Nat) : Int) from rfl)) ?_)
  refine jb_cons (js_newD 4 C ?_)
  refine jb_cons (js_new 5 C (jf_lst jd_nil) ?_)
  have hl : (List.range (rWide ns k most)).length ≤ sizeLine := by rw [List.length_range, sizeLine_eq]; omega
  have mm : rWide ns k most * most ≤ 20 * 20 := Nat.mul_le_mul (by omega) m2
  refine jb_cons (js_setLc 7 C (lc_as (lc_fold 6 (List.range (rWide ns k most)) (enc := eN) ⟨[], []⟩ (rStep ns k most) (fun s l => eN (rOut ns k most s l)) clCut (fun j s => s.ok (rWide ns k most) ∧ s.st.length ≤ j * most) C (ji_range1 T.range (je_var 3) (by omega)) rfl ⟨⟨(fun j p e => by simp at e), (fun q hq => nomatch hq), Nat.le_refl _⟩, Nat.zero_le _⟩ (fun j l b hl2 _ hQ => ?_)) (foldO_map _ _ eN _ _)) ?_)
  · obtain ⟨hj, hl3⟩ := List.getElem?_eq_some_iff.mp hl2
    rw [List.length_range] at hj
    rw [List.getElem_range] at hl3
    subst hl3
    obtain ⟨hb1, hb2⟩ := hQ
    obtain ⟨c1, c2, c3, c4⟩ := cutF_ok ns (k + 1) (rWide ns k most) most 0 j b (by omega) (Nat.zero_le _) hj hb1
    have jm : j * most ≤ 20 * 20 := Nat.mul_le_mul (by omega) m2
    refine ⟨⟨c1, ?_⟩, fun _ _ _ _ _ C => ?_⟩
    · have : (rStep ns k most b j).st.length ≤ b.st.length + j := by unfold rStep; omega
      rw [Nat.succ_mul]
      omega
    · exact je_callC C (F_law_cut most) (by omega) (ja_val je_int (ja_val (je_var 6) (ja_val (je_var 0) (ja_val (je_bin (je_var 1) je_int (by walk_at "b")) (ja_cell 4 (ja_cell 5 (ja_val (je_var 3) ja_nil))))))) ⟨ns, k + 1, rWide ns k most, 0, j, b, hb1, Nat.zero_le _, hj, by omega, by omega, by omega, rfl, rfl, rfl, rfl⟩
  refine jb_freeze 5 1 ?_
  exact jb_cons (js_ret (je_tup (jd_cons (je_var 3) (jd_cons (je_var 5) (jd_cons (je_var 7) jd_nil)))) rfl)
end
end Wk

namespace Sm
open PySem L2 DL
theorem cut_take {α : Type} (l : List α) (k : Nat) : cutG l none (some (k : Int)) = l.take k := by
  unfold cutG
  rw [HT.sIx_none, HT.sIx_nat, Nat.sub_zero, List.drop_zero]
  by_cases h : k ≤ l.length
  · rw [Nat.min_eq_left h]
  · rw [Nat.min_eq_right (by omega), List.take_length, List.take_of_length_le (by omega)]
theorem cut_drop {α : Type} (l : List α) (k : Nat) : cutG l (some (k : Int)) none = l.drop k := by
  unfold cutG
  rw [HT.sIx_none, HT.sIx_nat]
  by_cases h : k ≤ l.length
  · rw [Nat.min_eq_left h, List.take_of_length_le (by rw [List.length_drop]; omega)]
  · rw [Nat.min_eq_right (by omega), List.drop_of_length_le (Nat.le_refl _), List.drop_of_length_le (by omega)]
    simp
theorem cut_init {α : Type} (l : List α) : cutG l none (some (-1)) = l.take (l.length - 1) := by
  unfold cutG
  rw [HT.sIx_none, Nat.sub_zero, List.drop_zero]
  congr 1
  unfold HT.sIx
  simp
  omega
end Sm

namespace Sm
open PySem L2 DL
theorem set_cut {α : Type} {l : List α} {i : Nat} (x : α) (h : i < l.length) : l.take i ++ [x] ++ l.drop (i + 1) = l.set i x := by
  rw [List.set_eq_take_append_cons_drop, if_pos h, List.append_assoc]
  rfl
def bendAt (n : Nt) (num : Nat) : Nat := num / 8 % max 1 n.steps.length
def bendStep (n : Nt) (num : Nat) : Nat × Nat :=
  [((n.steps.getD (bendAt n num) (0, 0)).1, num / 64 % (n.wide + bendAt n num)), (num / 64 % (n.wide + bendAt n num), (n.steps.getD (bendAt n num) (0, 0)).2), ((n.steps.getD (bendAt n num) (0, 0)).2, (n.steps.getD (bendAt n num) (0, 0)).1)].getD (num / 4096 % 3) (0, 0)
/-- a net bent -/
def bentN (n : Nt) (num : Nat) : Nt :=
  if num % 8 = 0 ∧ n.steps ≠ [] then ⟨n.wide, n.steps.set (bendAt n num) (bendStep n num), n.outs⟩
  else if num % 8 = 1 then ⟨n.wide, n.steps, n.outs.set (num / 8 % n.wide) (num / 64 % (n.wide + n.steps.length))⟩
  else if num % 8 = 2 then ⟨n.wide, n.steps ++ [(num / 64 % (n.wide + n.steps.length), num / 8 % n.wide)], n.outs⟩
  else n
theorem bendAt_lt {n : Nt} {num : Nat} (h : n.steps ≠ []) : bendAt n num < n.steps.length := by
  have hp : 0 < n.steps.length := List.length_pos_iff.mpr h
  have e : max 1 n.steps.length = n.steps.length := by omega
  unfold bendAt
  rw [e]
  exact Nat.mod_lt _ hp
theorem bendStep_lt {n : Nt} {num : Nat} (hg : n.good) (h : n.steps ≠ []) : (bendStep n num).1 < n.wide + bendAt n num ∧ (bendStep n num).2 < n.wide + bendAt n num := by
  have hl := bendAt_lt (num := num) h
  have hp : n.steps[bendAt n num]? = some (n.steps.getD (bendAt n num) (0, 0)) := by rw [List.getD_eq_getElem?_getD, List.getElem?_eq_getElem hl]; rfl
  obtain ⟨h1, h2⟩ := hg.st _ _ hp
  have h3 := Nat.mod_lt (num / 64) (show n.wide + bendAt n num > 0 by have := hg.w1; omega)
  have q3 := Nat.mod_lt (num / 4096) (show 3 > 0 by decide)
  unfold bendStep
  revert q3
  generalize num / 4096 % 3 = i
  intro q3
  match i, q3 with
  | 0, _ => exact ⟨h1, h3⟩
  | 1, _ => exact ⟨h3, h2⟩
  | 2, _ => exact ⟨h2, h1⟩
theorem bentN_good {n : Nt} (hg : n.good) (hl : n.steps.length ≤ 400) (num : Nat) : (bentN n num).good ∧ (bentN n num).wide = n.wide ∧ (bentN n num).steps.length ≤ n.steps.length + 1 := by
  have w1 := hg.w1
  have lo := hg.lo
  unfold bentN
  split
  · rename_i h
    obtain ⟨b1, b2⟩ := bendStep_lt (num := num) hg h.2
    have hal := bendAt_lt (num := num) h.2
    refine ⟨⟨hg.w1, hg.w2, by rw [List.length_set]; exact hg.ls, hg.lo, fun k p hp => ?_, fun o ho => by rw [List.length_set]; exact hg.os o ho⟩, rfl, by rw [List.length_set]; omega⟩
    dsimp only at hp
    by_cases e : bendAt n num = k
    · subst e
      rw [List.getElem?_set_self hal] at hp
      cases hp
      exact ⟨b1, b2⟩
    · rw [List.getElem?_set_ne e] at hp
      exact hg.st k p hp
  · split
    · have h3 := Nat.mod_lt (num / 64) (show n.wide + n.steps.length > 0 by omega)
      refine ⟨⟨hg.w1, hg.w2, hg.ls, by dsimp only; rw [List.length_set]; exact hg.lo, hg.st, fun o ho => ?_⟩, rfl, Nat.le_succ _⟩
      rcases List.mem_or_eq_of_mem_set ho with ho | rfl
      · exact hg.os o ho
      · exact h3
    · split
      · have h3 := Nat.mod_lt (num / 64) (show n.wide + n.steps.length > 0 by omega)
        have h4 := Nat.mod_lt (num / 8) (show n.wide > 0 by omega)
        refine ⟨⟨hg.w1, hg.w2, by dsimp only; rw [List.length_append]; show _ + 1 ≤ 500; omega, hg.lo, fun k p hp => ?_, fun o ho => ?_⟩, rfl, by dsimp only; rw [List.length_append]; exact Nat.le_refl _⟩
        · dsimp only at hp
          by_cases hk : k < n.steps.length
          · rw [List.getElem?_append_left hk] at hp
            exact hg.st k p hp
          · rw [List.getElem?_append_right (by omega)] at hp
            cases e : k - n.steps.length with
            | zero =>
              rw [e] at hp
              have hp' : (num / 64 % (n.wide + n.steps.length), num / 8 % n.wide) = p := Option.some.inj hp
              subst hp'
              have ek : k = n.steps.length := by omega
              subst ek
              exact ⟨h3, by show num / 8 % n.wide < n.wide + _; omega⟩
            | succ i => rw [e] at hp; cases hp
        · have := hg.os o ho
          dsimp only
          rw [List.length_append]
          show o < n.wide + (_ + 1)
          omega
      · exact ⟨hg, rfl, Nat.le_succ _⟩
end Sm

namespace Sm
open PySem L2 DL
def eO : Option (Nat × Nat) → D
  | none => .non
  | some p => eP p
def eL (l : List Nat) : D := .lst (l.map eN)
theorem inj_eL : Inj eL := inj_lst inj_eN
def joinS : Option (Nat × Nat) → Option (Nat × Nat) → Option (Nat × Nat)
  | some a, some b => if a.2 + 1 = b.1 then some (a.1, b.2) else none
  | _, _ => none
def spF (l : List (Option (Nat × Nat))) (p : Nat × Nat) : List (Option (Nat × Nat)) := l ++ [joinS (l.getD p.1 none) (l.getD p.2 none)]
def spans0 (w : Nat) : List (Option (Nat × Nat)) := (List.range w).map fun x => some (x, x)
/-- for each node the stretch that it is, if it is one -/
def Nt.spans (n : Nt) : List (Option (Nat × Nat)) := n.steps.foldl spF (spans0 n.wide)
theorem spF_len (ps : List (Nat × Nat)) : ∀ l, (ps.foldl spF l).length = l.length + ps.length := by
  induction ps with
  | nil => intro l; rfl
  | cons p r ih => intro l; rw [List.foldl_cons, ih, spF, List.length_append, List.length_cons]; simp; omega
theorem Nt.spans_len (n : Nt) : n.spans.length = n.wide + n.steps.length := by rw [Nt.spans, spF_len, spans0, List.length_map, List.length_range]
def unitN (w t : Nat) : List Nat := (List.range w).map fun one => if one = t then 1 else 0
def addR (w : Nat) (a b : List Nat) : List Nat := (List.range w).map fun k => a.getD k 0 + b.getD k 0
def cntF (w : Nat) (l : List (List Nat)) (p : Nat × Nat) : List (List Nat) := l ++ [addR w (l.getD p.1 []) (l.getD p.2 [])]
def cnts0 (w : Nat) : List (List Nat) := (List.range w).map (unitN w)
/-- for each node how often it has each thing -/
def Nt.cnts (n : Nt) : List (List Nat) := n.steps.foldl (cntF n.wide) (cnts0 n.wide)
theorem cntF_len (w : Nat) (ps : List (Nat × Nat)) : ∀ l, (ps.foldl (cntF w) l).length = l.length + ps.length := by
  induction ps with
  | nil => intro l; rfl
  | cons p r ih => intro l; rw [List.foldl_cons, ih, cntF, List.length_append, List.length_cons]; simp; omega
theorem Nt.cnts_len (n : Nt) : n.cnts.length = n.wide + n.steps.length := by rw [Nt.cnts, cntF_len, cnts0, List.length_map, List.length_range]
theorem cntF_row (w : Nat) (ps : List (Nat × Nat)) : ∀ l : List (List Nat), (∀ r ∈ l, r.length = w) → ∀ r ∈ ps.foldl (cntF w) l, r.length = w := by
  induction ps with
  | nil => intro l h; exact h
  | cons p r ih =>
    intro l h
    rw [List.foldl_cons]
    refine ih _ fun r hr => ?_
    rcases List.mem_append.mp hr with hr | hr
    · exact h r hr
    · rw [List.mem_singleton.mp hr, addR, List.length_map, List.length_range]
theorem cnts0_row (w : Nat) : ∀ r ∈ cnts0 w, r.length = w := fun r hr => by
  obtain ⟨t, _, rfl⟩ := List.mem_map.mp hr
  rw [unitN, List.length_map, List.length_range]
theorem Nt.cnts_row (n : Nt) : ∀ r ∈ n.cnts, r.length = n.wide := cntF_row _ _ _ (cnts0_row _)
theorem getD_mem {α : Type} {l : List α} {i : Nat} (d : α) (h : i < l.length) : l.getD i d ∈ l := by
  rw [List.getD_eq_getElem?_getD, List.getElem?_eq_getElem h]
  exact List.getElem_mem h
def uptoN (w k : Nat) : List Nat := (List.range w).map fun t => if t ≤ k then 1 else 0
/-- out k does not tell its sum, for a kind -/
def badOut (n : Nt) (s : Str) (k : Nat) : Bool :=
  (decide (s = "any") && !decide (n.spans.getD (n.outs.getD k 0) none = some (0, k))) || ((decide (s = "commuting") && !decide (n.cnts.getD (n.outs.getD k 0) [] = uptoN n.wide k)) || (decide (s = "greatest") && !decide ((n.cnts.getD (n.outs.getD k 0) []).map (fun x => decide (0 < x)) = (List.range n.wide).map fun t => decide (t ≤ k))))
def wrongN (n : Nt) (s : Str) : Option Nat := (List.range n.wide).find? (badOut n s)
theorem find_at {p : Nat → Bool} {m k : Nat} (hk : k < m) (h1 : ∀ j, j < k → p j = false) (h2 : p k = true) : (List.range m).find? p = some k := by
  have e : List.range m = List.range k ++ (k :: (List.range' (k + 1) (m - k - 1))) := by
    rw [List.range_eq_range', List.range_eq_range']
    have : m = k + (1 + (m - k - 1)) := by omega
    conv => lhs; rw [this]
    rw [← List.range'_append_1, Nat.zero_add, Nat.add_comm 1, List.range'_succ]
  rw [e, List.find?_append]
  have z : (List.range k).find? p = none := List.find?_eq_none.mpr fun x hx => by rw [h1 x (List.mem_range.mp hx)]; exact Bool.false_ne_true
  rw [z, List.find?_cons, h2]
  rfl
theorem find_no {p : Nat → Bool} {m : Nat} (h1 : ∀ j, j < m → p j = false) : (List.range m).find? p = none := List.find?_eq_none.mpr fun x hx => by rw [h1 x (List.mem_range.mp hx)]; exact Bool.false_ne_true
theorem inj_eO : Inj eO := fun x y => by
  cases x with
  | none => cases y with
    | none => rfl
    | some q => rfl
  | some p => cases y with
    | none => rfl
    | some q =>
      have h := inj_eP p q
      show D.eqv (eP p) (eP q) = _
      rw [h, decide_eq_decide]
      exact ⟨fun z => by rw [z], fun z => Option.some.inj z⟩
theorem sh_eO (n : Nat) (p : Option (Nat × Nat)) : Sh (n + 1) (eO p) := by
  cases p with
  | none => exact sh_non _
  | some p => exact sh_eP n p
theorem b2i_eN (b : Bool) : D.int (b2i b) = eN (if b = true then 1 else 0) := by cases b <;> rfl
/-- the row that shows that an out is not its sum -/
def brkBad (n : Nt) (s : Str) (out : Nat) : List Nat := (List.range n.wide).filter fun t => if s = "greatest" then !decide (decide (0 < (n.cnts.getD (n.outs.getD out 0) []).getD t 0) = decide (t ≤ out)) else !decide ((n.cnts.getD (n.outs.getD out 0) []).getD t 0 = if t ≤ out then 1 else 0)
def thingS (t : Nat) : Str := "a" ++ (toString (t : Int) : Str) ++ "."
theorem thing_small : ∀ t : Nat, t < 64 → (t : Int).natAbs.log2 < 1920 ∧ ("a" : Str).length + (toString (t : Int) : Str).length ≤ 1000 ∧ (("a" : Str) ++ (toString (t : Int) : Str)).length + ("." : Str).length ≤ 1000 ∧ PyData.strOk (thingS t) = true := by decide +kernel
def brkN (n : Nt) (s : Str) (out : Nat) : D := if s = "any" then .lst ((List.range n.wide).map fun t => .str (thingS t)) else eL (unitN n.wide ((brkBad n s out).getD 0 0))
def judgN (n : Nt) (s : Str) : D := match wrongN n s with
  | none => .tup [.str "right"]
  | some k => .tup [.str "wrong", eN k, brkN n s k]
theorem ext_getD2 {α : Type} {l m : List α} (d : α) (h : l.length = m.length) (h2 : ∀ x, x < l.length → l.getD x d = m.getD x d) : l = m := by
  refine List.ext_getElem h fun i h1 h3 => ?_
  have := h2 i h1
  rw [List.getD_eq_getElem?_getD, List.getD_eq_getElem?_getD, List.getElem?_eq_getElem h1, List.getElem?_eq_getElem h3] at this
  exact this
theorem getD_mapR {α : Type} (f : Nat → α) {m x : Nat} (d : α) (h : x < m) : ((List.range m).map f).getD x d = f x := by
  rw [List.getD_eq_getElem?_getD, List.getElem?_map, List.getElem?_range h]
  rfl
theorem getD_map {α β : Type} (f : α → β) {d : β} {d0 : α} {l : List α} {t : Nat} (h : t < l.length) : (l.map f).getD t d = f (l.getD t d0) := by
  rw [List.getD_eq_getElem?_getD, List.getElem?_map, List.getD_eq_getElem?_getD, List.getElem?_eq_getElem h]
  rfl
theorem bnot_dec {p : Prop} [Decidable p] (h : (!decide p) = true) : ¬ p := fun z => by rw [decide_eq_true z] at h; cases h
theorem bnot_decF {p : Prop} [Decidable p] (h : (!decide p) = false) : p := by
  by_cases z : p
  · exact z
  · rw [decide_eq_false z] at h; cases h
/-- a wrong out has a thing that shows it -/
theorem brk_some {n : Nt} (hg : n.good) {s : Str} {k : Nat} (hs : s ≠ "any") (h : wrongN n s = some k) : brkBad n s k ≠ [] := fun e => by
  obtain ⟨hb, hk⟩ : badOut n s k = true ∧ k < n.wide := ⟨List.find?_some h, List.mem_range.mp (List.mem_of_find?_eq_some h)⟩
  have ho : n.outs.getD k 0 < n.wide + n.steps.length := hg.os _ (getD_mem 0 (by rw [hg.lo]; exact hk))
  have hr : (n.cnts.getD (n.outs.getD k 0) []).length = n.wide := n.cnts_row _ (getD_mem [] (by rw [n.cnts_len]; exact ho))
  have none_ : ∀ t, t < n.wide → (if s = "greatest" then !decide (decide (0 < (n.cnts.getD (n.outs.getD k 0) []).getD t 0) = decide (t ≤ k)) else !decide ((n.cnts.getD (n.outs.getD k 0) []).getD t 0 = if t ≤ k then 1 else 0)) = false := fun t ht => by
    cases q : (if s = "greatest" then !decide (decide (0 < (n.cnts.getD (n.outs.getD k 0) []).getD t 0) = decide (t ≤ k)) else !decide ((n.cnts.getD (n.outs.getD k 0) []).getD t 0 = if t ≤ k then 1 else 0)) with
    | false => rfl
    | true =>
      have m : t ∈ brkBad n s k := List.mem_filter.mpr ⟨List.mem_range.mpr ht, q⟩
      rw [e] at m
      cases m
  unfold badOut at hb
  rw [decide_eq_false hs, Bool.false_and, Bool.false_or, Bool.or_eq_true, Bool.and_eq_true, Bool.and_eq_true] at hb
  rcases hb with ⟨h1, h2⟩ | ⟨h1, h2⟩
  · have es : s = "commuting" := of_decide_eq_true h1
    subst es
    refine absurd (ext_getD2 0 ?_ fun t ht => ?_) (bnot_dec h2)
    · rw [hr, uptoN, List.length_map, List.length_range]
    · rw [hr] at ht
      have := none_ t ht
      rw [if_neg (by decide)] at this
      rw [uptoN, getD_mapR _ _ ht]
      exact bnot_decF this
  · have es : s = "greatest" := of_decide_eq_true h1
    subst es
    refine absurd (ext_getD2 false ?_ fun t ht => ?_) (bnot_dec h2)
    · rw [List.length_map, hr, List.length_map, List.length_range]
    · rw [List.length_map, hr] at ht
      have := none_ t ht
      rw [if_pos rfl] at this
      rw [getD_mapR _ _ ht]
      have e2 := getD_map (fun x => decide (0 < x)) (d := false) (d0 := 0) (l := n.cnts.getD (n.outs.getD k 0) []) (t := t) (by omega)
      rw [e2]
      exact bnot_decF this
end Sm

namespace Sm
open PySem L2 DL
theorem ix_last {α : Type} (f : α → D) {l : List α} (x : α) (h : l ≠ []) : IxD (.lst (l.map f)) (.int (-1)) (f (l.getD (l.length - 1) x)) := by
  have hp : 0 < l.length := List.length_pos_iff.mpr h
  refine .lst ?_
  unfold L2.atI L2.ixN
  rw [List.length_map, if_neg (by omega), if_pos (by omega)]
  have e : ((-1 : Int) + (l.length : Int)).toNat = l.length - 1 := by omega
  rw [e]
  show (l.map f)[l.length - 1]? = _
  rw [List.getElem?_map, List.getElem?_eq_getElem (by omega), List.getD_eq_getElem?_getD, List.getElem?_eq_getElem (by omega)]
  rfl
theorem sh_right (n : Nat) : Sh (n + 1) (.tup [.str "right"]) := show ∀ x ∈ _, Sh n x from sh_cons (by cases n <;> exact (show PyData.strOk _ = true by decide +kernel)) sh_nil
theorem sh_judg {n : Nt} (hw : n.wide ≤ 64) (s : Str) : Sh 2 (judgN n s) := by
  have st : ∀ (m : Nat) (z : Str), PyData.strOk z = true → Sh m (.str z) := fun m z h => by cases m <;> exact h
  have wr : PyData.strOk ("wrong" : Str) = true := by decide +kernel
  unfold judgN
  cases wrongN n s with
  | none => exact sh_right 1
  | some k =>
    refine show ∀ x ∈ _, Sh 1 x from sh_cons (st _ _ wr) (sh_cons (sh_eN _ _) (sh_cons ?_ sh_nil))
    unfold brkN
    split
    · exact sh_lst fun t ht => st 0 _ (thing_small t (by have := List.mem_range.mp ht; omega)).2.2.2
    · exact sh_lst fun x _ => sh_eN 0 x
theorem judg_right (n : Nt) (s : Str) : D.eqv (judgN n s) (.tup [.str "right"]) = (wrongN n s).isNone := by
  unfold judgN
  cases wrongN n s with
  | none => show D.eqv (.tup [.str "right"]) _ = true; rw [eqv_tups, eqvs, eqvs, eqv_str]; rfl
  | some k => show D.eqv (.tup [.str "wrong", eN k, brkN n s k]) _ = false; rw [eqv_tups, eqvs, eqv_str]; rfl
end Sm

namespace Wk
open PySem PySem.Spec PyProof.Rows L2 DL Sm
/-- what the top has made of the class -/
structure MkrF (K : PySem.W.Frag) (C : Addr) : Prop where
  cl : Cls K C
  n_wide : NoAttr K C "wide"
  n_steps : NoAttr K C "steps"
def clM (C : Addr) (w : Nat) (st : Ps) : List Cl := [.lst (st.map eP), .ins C [("wide", .d (eN w)), ("steps", .c 0)]]
section
variable {Pg : Program} {w : World} {K : PySem.W.Frag} {mg : Str → Option Value} {base : Heap}
abbrev sInit : Stmt := inClass (topS 17) 0
theorem scInit : FnScope ["self", "wide"] ["self", "wide"] (defScope sInit) := ⟨rfl, rfl, rfl, by decide +kernel, rfl, by decide +kernel, by decide +kernel⟩
theorem fn_init {f C : Addr} {fd : FuncData} (F : Fun K "__init__" "Maker.__init__" sInit f fd) (hM : MkrF K C) : FnOk Pg w K mg base (L2.CX Pg w) 1 f fd ["self", "wide"] (spInit C "wide" "steps") := by
  refine F.okX scInit (fun vs H Q E h => ?_) (fun cdv A outer s H vs Q E hr h => ?_)
  · obtain ⟨x, dx, v, rfl, _⟩ := h
    rfl
  · obtain ⟨x, dx, v, rfl, hx, q⟩ := h
    refine ⟨_, pss_cons (ps_fld (pv 0) (pv 1) rfl) (pss_one (ps_fld (pv 0) (pe_lst pa_nil) rfl)), ?_⟩
    refine ⟨_, rfl, _, rfl, x, C, dx, [], rfl, hx, hM.cl, hM.n_wide, by show 0 < 1000; decide, ?_⟩
    refine ⟨Nat.zero_le _, fun p hp => ⟨_, rfl, x, C, dx, [("wide", v)], rfl, ?_, hM.cl, hM.n_steps, by show 1 < 1000; decide, ?_⟩⟩
    · have hne : x ≠ p := fun e => by rw [← e, upd_same] at hp; cases hp
      rw [upd_ne hne, upd_same]
      rfl
    · have hne : p ≠ x := fun e => by rw [e, upd_same] at hp; cases hp
      rw [upd_ne hne] at hp
      refine q p _ hne hp (by rw [upd_ne hne, upd_same]) ?_ (fun b o hb hbx => ?_)
      · rw [upd_same]
        refine congrArg (fun l => some (HO.ins C dx l)) ?_
        show (if ("wide" : Str) = "steps" then _ else _) = _
        rw [if_neg (by decide)]
        rfl
      · rw [upd_ne hbx, upd_ne (ne_of_none hb hp), upd_ne hbx]
        exact hb
abbrev sStep : Stmt := inClass (topS 17) 1
theorem scStep : FnScope ["self", "one", "other"] ["self", "one", "other"] (defScope sStep) := ⟨rfl, rfl, rfl, by decide +kernel, rfl, by decide +kernel, by decide +kernel⟩
def preStep (C : Addr) : List Sl → List Cl → Res → List Cl → Prop := fun sls cl r cl' => ∃ (w a b : Nat) (st : Ps), st.length ≤ 100000 ∧ sls = [.c 1, .d (eN a), .d (eN b)] ∧ cl = clM C w st ∧ r = .ok (eN (w + st.length)) ∧ cl' = clM C w (st ++ [(a, b)])
theorem mt_step {f C : Addr} {fd : FuncData} (F : Fun K "step" "Maker.step" sStep f fd) (hb : Binds K fd ["self", "one", "other"] []) (hm : Meth K C "step" f) (T : Bt mg) (hM : MkrF K C) : MtC Pg w K mg base C "step" 3 2 1 (preStep C) := by
  refine mt_okC (k := 0) (ps := ["self", "one", "other"]) F scStep hb hm (fun sls cl r cl' ⟨w, a, b, st, _, h, _⟩ => by rw [h]; rfl) (by decide) fun cdv A outer s H E C sls cl r cl' _ h => ?_
  obtain ⟨w, a, b, st, hl, rfl, rfl, rfl, rfl⟩ := h
  show JB _ _ _ ⟨[.c 1, .d (eN a), .d (eN b)], [.lst (st.map eP), .ins _ [("wide", .d (eN w)), ("steps", .c 0)]]⟩ _
  refine jb_cons (js_appF 0 hM.cl hM.n_steps (je_tup (jd_cons (je_var 1) (jd_cons (je_var 2) jd_nil))) ?_ ?_)
  · rw [List.length_map, sizeLine_eq]; omega
  refine jb_cons (js_ret (je_as (je_bin (je_bin (je_fld 0 hM.cl hM.n_wide) (je_lenF 0 T.len hM.cl hM.n_steps) (by walk_at "b")) je_int (by walk_at "b")) ?_) ⟨rfl, ?_⟩)
  · rw [List.length_append, List.length_map]
    show D.int ((w : Int) + ((st.length + 1 : Nat) : Int) - 1) = D.int ((w + st.length : Nat) : Int)
    congr 1
    omega
  · unfold clM
    rw [List.map_append]
    rfl
abbrev sMnet : Stmt := inClass (topS 17) 2
theorem scMnet : FnScope ["self", "outs"] ["self", "outs"] (defScope sMnet) := ⟨rfl, rfl, rfl, by decide +kernel, rfl, by decide +kernel, by decide +kernel⟩
def clE (C : Addr) (w : Nat) (st : Ps) : List Cl := [.dead, .ins C [("wide", .d (eN w)), ("steps", .d (.lst (st.map eP)))]]
def preMnet (C : Addr) : List Sl → List Cl → Res → List Cl → Prop := fun sls cl r cl' => ∃ (w : Nat) (os : List Nat) (st : Ps), sls = [.c 1, .d (eL os)] ∧ cl = clM C w st ∧ r = .ok (Nt.e ⟨w, st, os⟩) ∧ cl' = clE C w st
theorem mt_net {f C : Addr} {fd : FuncData} (F : Fun K "net" "Maker.net" sMnet f fd) (hb : Binds K fd ["self", "outs"] []) (hm : Meth K C "net" f) (T : Bt mg) (hM : MkrF K C) : MtC Pg w K mg base C "net" 2 2 1 (preMnet C) := by
  refine mt_okC (k := 0) (ps := ["self", "outs"]) F scMnet hb hm (fun sls cl r cl' ⟨w, os, st, h, _⟩ => by rw [h]; rfl) (by decide) fun cdv A outer s H E C sls cl r cl' _ h => ?_
  obtain ⟨w, os, st, rfl, rfl, rfl, rfl⟩ := h
  show JB _ _ _ ⟨[.c 1, .d (eL os)], [.lst (st.map eP), .ins _ [("wide", .d (eN w)), ("steps", .c 0)]]⟩ _
  refine jb_freezeF 0 1 0 "steps" ?_
  refine jb_cons (js_ret (je_tup (jd_cons (je_fld 0 hM.cl hM.n_wide) (jd_cons (je_fld 0 hM.cl hM.n_steps) (jd_cons (je_f (jf_list T.list (je_var 1) (.inl rfl))) jd_nil)))) ⟨rfl, rfl⟩)
abbrev sLine : Stmt := topS 18
theorem scLine : FnScope ["maker", "some", "found", "one"] ["maker", "some"] (defScope sLine) := ⟨rfl, rfl, rfl, by decide +kernel, rfl, by decide +kernel, by decide +kernel⟩
def preLay (C : Addr) (ok : List Nat → Ps → Prop) (f : Nat → List Nat → Ps → List Nat × Ps) : List Sl → List Cl → Res → List Cl → Prop := fun sls cl r cl' => ∃ (w : Nat) (some : List Nat) (st : Ps), ok some st ∧ sls = [.c 1, .d (eL some)] ∧ cl = clM C w st ∧ r = .ok (eL (f w some st).1) ∧ cl' = clM C w (f w some st).2
theorem fn_line {f C : Addr} {fd : FuncData} (F : Fun K "in_line" "in_line" sLine f fd) (hb : Binds K fd ["maker", "some"] []) (hm : mg "in_line" = some (.ref f)) (T : Bt mg) (hM : MkrF K C) (Fstep : MtC Pg w K mg base C "step" 3 2 1 (preStep C)) : FnC Pg w K mg base "in_line" 2 2 2 (preLay C (fun some st => st.length + some.length ≤ 1000) lineF) := by
  refine fn_okC (k := 1) (ps := ["maker", "some"]) F scLine hb hm (fun sls cl r cl' ⟨w, so, st, _, h, _⟩ => by rw [h]; rfl) (by decide) fun cdv A outer s H E C sls cl r cl' _ h => ?_
  obtain ⟨w, so, st, hl, rfl, rfl, rfl, rfl⟩ := h
  show JB _ _ _ ⟨[.c 1, .d (eL so), .u, .u], [.lst (st.map eP), .ins _ [("wide", .d (eN w)), ("steps", .c 0)]]⟩ _
  refine jb_cons (js_new 2 C (jf_lst jd_nil) ?_)
  refine jb_cons (js_fold so (linF w) ([], st) (fun p => ⟨[.c 1, .d (eL so), .c 2, .u], [.lst (p.2.map eP), .ins _ [("wide", .d (eN w)), ("steps", .c 0)], .lst (p.1.map eN)]⟩) (fun i p => p.1.length = i ∧ p.2.length ≤ st.length + i) C (ji_list (je_var 1)) ⟨rfl, Nat.le_refl _⟩ ?_ ?_)
  · intro i one p ha _ hQ
    obtain ⟨q1, q2⟩ := hQ
    have hi := (List.getElem?_eq_some_iff.mp ha).1
    obtain ⟨l1, l2⟩ := linF_len w p one
    refine jg_name 3 C.nd ?_
    by_cases hne : p.1 = []
    · refine jb_cons (js_app 2 2 (je_if (jt_view (jt_as (jt_cmp C (je_var 2) (je_f (jf_lst jd_nil)) (.eq 1 (by decide) (sh_lst fun x _ => sh_eN 0 x) (fun _ z => nomatch z))) (eqv_lst inj_eN p.1 []))) (fun _ => je_var 3) (fun z => absurd hne (of_decide_eq_false z))) ?_ ?_)
      · rw [List.length_map, sizeLine_eq]; omega
      refine jb_fin (t := ⟨[.c 1, .d (eL so), .c 2, .u], [.lst ((linF w p one).2.map eP), .ins _ [("wide", .d (eN w)), ("steps", .c 0)], .lst ((linF w p one).1.map eN)]⟩) ⟨rfl, by omega, by omega⟩ ?_
      rw [linF, if_pos hne, List.map_append]
      rfl
    · refine jb_cons (js_app 2 2 (je_if (jt_view (jt_as (jt_cmp C (je_var 2) (je_f (jf_lst jd_nil)) (.eq 1 (by decide) (sh_lst fun x _ => sh_eN 0 x) (fun _ z => nomatch z))) (eqv_lst inj_eN p.1 []))) (fun z => absurd (of_decide_eq_true z) hne) (fun _ => je_meth 0 C hM.cl Fstep (by decide) (ja_val (je_view (je_ix (je_var 2) (je_neg je_int) (ix_last eN 0 hne))) (ja_val (je_var 3) ja_nil)) ⟨w, lastN p.1, one, p.2, by omega, rfl, rfl, rfl, rfl⟩)) ?_ ?_)
      · rw [List.length_map, sizeLine_eq]; omega
      refine jb_fin (t := ⟨[.c 1, .d (eL so), .c 2, .u], [.lst ((linF w p one).2.map eP), .ins _ [("wide", .d (eN w)), ("steps", .c 0)], .lst ((linF w p one).1.map eN)]⟩) ⟨rfl, by omega, by omega⟩ ?_
      rw [linF, if_neg hne, List.map_append (f := eN)]
      rfl
  · intro _
    refine jb_freeze 2 2 ?_
    exact jb_cons (js_ret (je_var 2) ⟨rfl, rfl⟩)
end
end Wk

namespace Sm
open PySem L2 DL
theorem eL_take (l : List Nat) (k : Nat) : cutG (l.map eN) none (some (k : Int)) = (l.take k).map eN := by rw [cut_take, List.map_take]
theorem eL_drop (l : List Nat) (k : Nat) : cutG (l.map eN) (some (k : Int)) none = (l.drop k).map eN := by rw [cut_drop, List.map_drop]
theorem halvesF_base {w m : Nat} {so : List Nat} {st : Ps} (h : so.length < 2) : halvesF w m so st = (so, st) := by
  cases m with
  | zero => rfl
  | succ m => rw [halvesF, if_pos h]
theorem updownF_base {w m : Nat} {so : List Nat} {st : Ps} (h : so.length < 2) : updownF w m so st = (so, st) := by
  cases m with
  | zero => rfl
  | succ m => rw [updownF, if_pos h]
end Sm
namespace Wk
open PySem PySem.Spec PyProof.Rows L2 DL Sm
section
variable {Pg : Program} {w : World} {K : PySem.W.Frag} {mg : Str → Option Value} {base : Heap}
abbrev sHalf : Stmt := topS 19
theorem scHalf : FnScope ["maker", "some", "half", "first", "second", "one"] ["maker", "some"] (defScope sHalf) := ⟨rfl, rfl, rfl, by decide +kernel, rfl, by decide +kernel, by decide +kernel⟩
theorem fn_half {f C : Addr} {fd : FuncData} (F : Fun K "by_halves" "by_halves" sHalf f fd) (hb : Binds K fd ["maker", "some"] []) (hm : mg "by_halves" = some (.ref f)) (T : Bt mg) (hM : MkrF K C) (Fstep : MtC Pg w K mg base C "step" 3 2 1 (preStep C)) : ∀ m, FnC Pg w K mg base "by_halves" 2 2 (2 + m) (preLay C (fun so st => 1 ≤ so.length ∧ so.length ≤ 2 ^ m ∧ so.length ≤ 64 ∧ st.length + m * so.length ≤ 10000) fun w => halvesF w m) := by
  intro m
  induction m with
  | zero =>
    refine fn_okC (k := 1) (ps := ["maker", "some"]) F scHalf hb hm (fun sls cl r cl' ⟨w, so, st, _, h, _⟩ => by rw [h]; rfl) (by decide) fun cdv A outer s H E C sls cl r cl' _ h => ?_
    obtain ⟨w, so, st, ⟨h1, h2, h3, h4⟩, rfl, rfl, rfl, rfl⟩ := h
    show JB _ _ _ ⟨[.c 1, .d (eL so), .u, .u, .u, .u], [.lst (st.map eP), .ins _ [("wide", .d (eN w)), ("steps", .c 0)]]⟩ _
    refine jb_cons (js_if (jt_cmp C (je_len T.len (je_var 1) (by walk_at "len")) je_int (by walk_at "c")) (fun hb => ?_) (fun hb => ?_))
    · exact jb_cons (js_ret (je_f (jf_list T.list (je_var 1) (.inl rfl))) ⟨rfl, rfl⟩)
    · have := of_decide_eq_false hb
      rw [List.length_map] at this
      have : so.length ≤ 1 := h2
      omega
  | succ m ih =>
    refine fn_okC (k := 2 + m) (ps := ["maker", "some"]) F scHalf hb hm (fun sls cl r cl' ⟨w, so, st, _, h, _⟩ => by rw [h]; rfl) (by decide) fun cdv A outer s H E C sls cl r cl' _ h => ?_
    obtain ⟨w, so, st, ⟨h1, h2, h3, h4⟩, rfl, rfl, rfl, rfl⟩ := h
    show JB _ _ _ ⟨[.c 1, .d (eL so), .u, .u, .u, .u], [.lst (st.map eP), .ins _ [("wide", .d (eN w)), ("steps", .c 0)]]⟩ (PoC 2 (.ok (eL (halvesF w (m + 1) so st).1)) (clM _ w (halvesF w (m + 1) so st).2))
    refine jb_cons (js_if (jt_cmp C (je_len T.len (je_var 1) (by walk_at "len")) je_int (by walk_at "c")) (fun hb => ?_) (fun hb => ?_))
    · have hlt : so.length < 2 := by have := of_decide_eq_true hb; rw [List.length_map] at this; omega
      exact jb_cons (js_ret (je_f (jf_list T.list (je_var 1) (.inl rfl))) ⟨by rw [halvesF_base hlt]; rfl, by rw [halvesF_base hlt]; rfl⟩)
    have hge : ¬ so.length < 2 := by have := of_decide_eq_false hb; rw [List.length_map] at this; omega
    refine jb_nil ?_
    have p2 : 2 ^ (m + 1) = 2 * 2 ^ m := by rw [Nat.pow_succ]; omega
    obtain ⟨hf, ehf⟩ : ∃ hf, hf = (so.length + 1) / 2 := ⟨_, rfl⟩
    have em : (m + 1) * so.length = m * hf + m * (so.length - hf) + so.length := by
      rw [Nat.succ_mul, ← Nat.mul_add]
      congr 2
      omega
    refine jb_cons (js_set 2 C (je_as (je_bin (je_bin (je_len T.len (je_var 1) (by walk_at "len")) je_int (by walk_at "b")) je_int (by walk_at "b")) (show _ = eN hf by rw [List.length_map, ehf]; rfl)) ?_)
    obtain ⟨a1, a2⟩ := halves_len w m (so.take hf) st
    rw [List.length_take] at a1 a2
    have el1 : min hf so.length = hf := by omega
    rw [el1] at a1 a2
    refine jb_cons (js_set 3 C (je_callC C ih (Nat.le_refl _) (ja_cell 0 (ja_val (je_f (jf_as (jf_cut (je_var 1) jo_none (jo_some (je_var 2))) (eL_take so hf))) ja_nil)) ⟨w, so.take hf, st, ⟨by rw [List.length_take]; omega, by rw [List.length_take]; omega, by rw [List.length_take]; omega, by rw [List.length_take, el1]; omega⟩, rfl, rfl, rfl, rfl⟩) ?_)
    obtain ⟨b1, b2⟩ := halves_len w m (so.drop hf) (halvesF w m (so.take hf) st).2
    have eA : halvesF w (m + 1) so st = joinH w (halvesF w m (so.take hf) st).1 (halvesF w m (so.drop hf) (halvesF w m (so.take hf) st).2) := by
      rw [halvesF, if_neg hge, ehf]
    rw [eA]
    generalize halvesF w m (so.take hf) st = A at *
    rw [List.length_drop] at b1 b2
    refine jb_cons (js_set 4 C (je_callC C ih (Nat.le_refl _) (ja_cell 0 (ja_val (je_f (jf_as (jf_cut (je_var 1) (jo_some (je_var 2)) jo_none) (eL_drop so hf))) ja_nil)) ⟨w, so.drop hf, A.2, ⟨by rw [List.length_drop]; omega, by rw [List.length_drop]; omega, by rw [List.length_drop]; omega, by rw [List.length_drop]; omega⟩, rfl, rfl, rfl, rfl⟩) ?_)
    generalize halvesF w m (so.drop hf) A.2 = B at *
    have hl : B.1.length ≤ sizeLine := by rw [sizeLine_eq]; omega
    have hne : A.1 ≠ [] := fun z => by rw [z] at a1; simp at a1; omega
    refine jb_cons (js_ret (je_f (jf_as (jf_cat (je_var 3) (je_f (jf_lc C (lc_as (lc_fold 5 B.1 (enc := eN) B.2 (addS fun one => (lastN A.1, one)) (fun st _ => eN (w + st.length)) (clM _ w) (fun i s => s.length ≤ B.2.length + i) C (ji_list (je_var 4)) rfl (Nat.le_refl _) (fun j a b ha _ hQ => ?_)) (nodeS_fold _ w B.1 B.2)))) ?_) (show _ = (joinH w A.1 B).1.map eN by rw [joinH, List.map_append]))) ⟨rfl, ?_⟩)
    · have hj := (List.getElem?_eq_some_iff.mp ha).1
      refine ⟨by rw [addS, List.length_append]; show _ + 1 ≤ _; omega, fun _ _ _ _ _ C => ?_⟩
      exact je_meth 0 C hM.cl Fstep (by omega) (ja_val (je_ix (je_var 3) (je_neg je_int) (ix_last eN 0 hne)) (ja_val (je_var 5) ja_nil)) ⟨w, lastN A.1, a, b, by omega, rfl, rfl, rfl, rfl⟩
    · rw [List.length_map, List.length_map, nodesS_len, sizeLine_eq]; omega
    · rw [addS_fold]
      rfl
abbrev sStri : Stmt := topS 20
theorem scStri : FnScope ["maker", "some", "found", "stride", "later", "k"] ["maker", "some"] (defScope sStri) := ⟨rfl, rfl, rfl, by decide +kernel, rfl, by decide +kernel, by decide +kernel⟩
theorem fn_stri {f C : Addr} {fd : FuncData} (F : Fun K "by_strides" "by_strides" sStri f fd) (hb : Binds K fd ["maker", "some"] []) (hm : mg "by_strides" = some (.ref f)) (T : Bt mg) (hM : MkrF K C) (Fstep : MtC Pg w K mg base C "step" 3 2 1 (preStep C)) : FnC Pg w K mg base "by_strides" 2 2 2 (preLay C (fun so st => so.length ≤ 64 ∧ st.length + so.length * so.length ≤ 10000) fun w so st => strideF w so.length so.length 1 so st) := by
  refine fn_okC (k := 1) (ps := ["maker", "some"]) F scStri hb hm (fun sls cl r cl' ⟨w, so, st, _, h, _⟩ => by rw [h]; rfl) (by decide) fun cdv A outer s H E C sls cl r cl' _ h => ?_
  obtain ⟨w, so, st, ⟨h1, h2⟩, rfl, rfl, rfl, rfl⟩ := h
  show JB _ _ _ ⟨[.c 1, .d (eL so), .u, .u, .u, .u], [.lst (st.map eP), .ins _ [("wide", .d (eN w)), ("steps", .c 0)]]⟩ (PoC 2 (.ok (eL (strideF w so.length so.length 1 so st).1)) (clM _ w (strideF w so.length so.length 1 so st).2))
  refine jb_cons (js_set 2 C (je_as (je_f (jf_list T.list (je_var 1) (.inl rfl))) (show _ = eL so from rfl)) ?_)
  refine jb_cons (js_set 3 C je_int ?_)
  obtain ⟨n, en⟩ : ∃ n, n = so.length := ⟨_, rfl⟩
  obtain ⟨Z, eZ⟩ : ∃ Z, Z = strideF w n n 1 so st := ⟨_, rfl⟩
  rw [← en, ← eZ]
  rw [← en] at h1 h2
  refine jb_cons (js_while (m0 := n) (fun m s' => ∃ (str : Nat) (g : List Nat) (u : Ps), 1 ≤ str ∧ n - str ≤ m ∧ g.length = n ∧ u.length + m * n ≤ st.length + n * n ∧ strideF w n m str g u = Z ∧ s' = ⟨[.c 1, .d (eL so), .d (eL g), .d (eN str), .u, .u], clM _ w u⟩) C ⟨1, so, st, Nat.le_refl _, by omega, en.symm, Nat.le_refl _, eZ.symm, rfl⟩ ?_)
  rintro m s' ⟨str, g, u, s1, s2, s3, s4, s5, rfl⟩
  show ∃ β, JT _ _ ⟨[.c 1, .d (eL so), .d (eL g), .d (eN str), .u, .u], [.lst (u.map eP), .ins _ [("wide", .d (eN w)), ("steps", .c 0)]]⟩ β ∧ _
  refine ⟨_, (jt_cmp C (je_var 3) (je_len T.len (je_var 1) (by walk_at "len")) (by walk_at "c")), fun hb => ?_, fun hb => ?_⟩
  · have hlt : str < n := by have := of_decide_eq_true hb; rw [List.length_map] at this; omega
    cases m with
    | zero => omega
    | succ m =>
      rw [strideF, if_pos hlt] at s5
      rw [Nat.succ_mul] at s4
      refine jb_drop ?_
      refine jb_cons (js_new 4 C (jf_list T.list (je_f (jf_as (jf_cut (je_var 2) jo_none (jo_some (je_var 3))) (eL_take g str))) (.inl rfl)) ?_)
      refine jb_cons (js_fold (List.range (n - str)) (pairS w (stepSt g str)) (g.take str, u) (fun p => ⟨[.c 1, .d (eL so), .d (eL g), .d (eN str), .c 2, .u], [.lst (p.2.map eP), .ins _ [("wide", .d (eN w)), ("steps", .c 0)], .lst (p.1.map eN)]⟩) (fun i p => p.1.length = str + i ∧ p.2.length = u.length + i) C (enc := fun i : Nat => D.int ((str + i : Nat) : Int)) (ji_range2 T.range (lo := str) (hi := n) (je_var 3) (je_as (je_len T.len (je_var 1) (by walk_at "len")) (by rw [List.length_map, en])) ⟨by omega, by omega⟩) ⟨by rw [List.length_take]; omega, rfl⟩ ?_ ?_)
      · intro i k p ha _ hQ
        obtain ⟨q1, q2⟩ := hQ
        obtain ⟨hi, hk⟩ := List.getElem?_eq_some_iff.mp ha
        rw [List.length_range] at hi
        rw [List.getElem_range] at hk
        subst hk
        refine jg_name 5 C.nd ?_
        have x1 : IxD (.lst (g.map eN)) (.int ((str + i - str : Nat) : Int)) (eN (g.getD (str + i - str) 0)) := ix_lst eN 0 (by omega)
        have x2 : IxD (.lst (g.map eN)) (.int ((str + i : Nat) : Int)) (eN (g.getD (str + i) 0)) := ix_lst eN 0 (by omega)
        refine jb_cons (js_app 4 2 (je_meth 0 C hM.cl Fstep (by decide) (ja_val (je_ix (je_var 2) (je_as (je_bin (je_var 5) (je_var 3) (by walk_at "b")) (show _ = D.int ((str + i - str : Nat) : Int) by congr 1; omega)) x1) (ja_val (je_ix (je_var 2) (je_var 5) x2) ja_nil)) ⟨w, g.getD (str + i - str) 0, g.getD (str + i) 0, p.2, by omega, rfl, rfl, rfl, rfl⟩) ?_ ?_)
        · rw [List.length_map, sizeLine_eq]; omega
        refine jb_fin (t := ⟨[.c 1, .d (eL so), .d (eL g), .d (eN str), .c 2, .u], [.lst ((pairS w (stepSt g str) p i).2.map eP), .ins _ [("wide", .d (eN w)), ("steps", .c 0)], .lst ((pairS w (stepSt g str) p i).1.map eN)]⟩) ⟨rfl, ?_, ?_⟩ ?_
        · rw [pairS, List.length_append, q1]; rfl
        · rw [pairS, List.length_append, q2]; rfl
        · rw [pairS, List.map_append (f := eN)]
          rfl
      · rw [pair_fold, List.length_range]
        rintro ⟨q1, q2⟩
        refine jb_freeze 4 2 ?_
        refine jb_cons (js_set 2 C (je_var 4) ?_)
        refine jb_cons (js_set 3 C (je_as (je_bin je_int (je_var 3) (by walk_at "b")) (show _ = eN (2 * str) from rfl)) ?_)
        refine jb_finD ⟨[.c 1, .d (eL so), .d (eL (g.take str ++ nodesS w u (n - str))), .d (eN (2 * str)), .u, .u], clM _ w (u ++ (List.range (n - str)).map (stepSt g str))⟩ ⟨m, Nat.lt_succ_self m, 2 * str, _, _, by omega, by omega, ?_, ?_, s5, rfl⟩
        · rw [q1]; omega
        · rw [q2]; omega
  · have hlt : ¬ str < n := by have := of_decide_eq_false hb; rw [List.length_map] at this; omega
    have e5 : (g, u) = Z := by
      rw [← s5]
      cases m with
      | zero => rfl
      | succ m => rw [strideF, if_neg hlt]
    rw [← e5]
    exact jb_cons (js_ret (je_var 2) ⟨rfl, rfl⟩)
end
end Wk

namespace Sm
open PySem L2 DL
theorem lc_to {X : Cx} {tg iter elt : Expr} {ifs : List Expr} {scope : Scope} {own : List (Str × Nat)} {g : TG} {s s' s'' : DL.A} {xs : List D} (h : Lc X tg iter elt ifs scope own g s xs s') (e : s' = s'') : Lc X tg iter elt ifs scope own g s xs s'' := e ▸ h
theorem rg2 : ∀ n : Nat, n < 65 → 2 ≤ n → RgC 0 ((n : Int) - 1) (2 : Nat) (n / 2) := by
  have h : ∀ n : Nat, n < 65 → 2 ≤ n → ((2 : Nat) : Int) ≠ 0 ∧ ((2 : Nat) : Int).natAbs < 1073741824 ∧ Builtin.Range.small 0 ((n : Int) - 1) ((2 : Nat) : Int) = true ∧ Builtin.Range.rangeSize 0 ((n : Int) - 1) ((2 : Nat) : Int) = ((n / 2 : Nat) : Int) := by decide +kernel
  exact h
end Sm
namespace Wk
open PySem PySem.Spec PyProof.Rows L2 DL Sm
section
variable {Pg : Program} {w : World} {K : PySem.W.Frag} {mg : Str → Option Value} {base : Heap}
abbrev sUpd : Stmt := topS 21
theorem scUpd : FnScope ["maker", "some", "k", "pairs", "sums", "found"] ["maker", "some"] (defScope sUpd) := ⟨rfl, rfl, rfl, by decide +kernel, rfl, by decide +kernel, by decide +kernel⟩
theorem fn_upd {f C : Addr} {fd : FuncData} (F : Fun K "up_and_down" "up_and_down" sUpd f fd) (hb : Binds K fd ["maker", "some"] []) (hm : mg "up_and_down" = some (.ref f)) (T : Bt mg) (hM : MkrF K C) (Fstep : MtC Pg w K mg base C "step" 3 2 1 (preStep C)) : ∀ m, FnC Pg w K mg base "up_and_down" 2 2 (2 + m) (preLay C (fun so st => 1 ≤ so.length ∧ so.length ≤ 2 ^ m ∧ so.length ≤ 64 ∧ st.length + m * so.length ≤ 10000) fun w => updownF w m) := by
  intro m
  induction m with
  | zero =>
    refine fn_okC (k := 1) (ps := ["maker", "some"]) F scUpd hb hm (fun sls cl r cl' ⟨w, so, st, _, h, _⟩ => by rw [h]; rfl) (by decide) fun cdv A outer s H E C sls cl r cl' _ h => ?_
    obtain ⟨w, so, st, ⟨h1, h2, h3, h4⟩, rfl, rfl, rfl, rfl⟩ := h
    show JB _ _ _ ⟨[.c 1, .d (eL so), .u, .u, .u, .u], [.lst (st.map eP), .ins _ [("wide", .d (eN w)), ("steps", .c 0)]]⟩ _
    refine jb_cons (js_if (jt_cmp C (je_len T.len (je_var 1) (by walk_at "len")) je_int (by walk_at "c")) (fun hb => ?_) (fun hb => ?_))
    · exact jb_cons (js_ret (je_f (jf_list T.list (je_var 1) (.inl rfl))) ⟨rfl, rfl⟩)
    · have := of_decide_eq_false hb
      rw [List.length_map] at this
      have : so.length ≤ 1 := h2
      omega
  | succ m ih =>
    refine fn_okC (k := 2 + m) (ps := ["maker", "some"]) F scUpd hb hm (fun sls cl r cl' ⟨w, so, st, _, h, _⟩ => by rw [h]; rfl) (by decide) fun cdv A outer s H E C sls cl r cl' _ h => ?_
    obtain ⟨w, so, st, ⟨h1, h2, h3, h4⟩, rfl, rfl, rfl, rfl⟩ := h
    show JB _ _ _ ⟨[.c 1, .d (eL so), .u, .u, .u, .u], [.lst (st.map eP), .ins _ [("wide", .d (eN w)), ("steps", .c 0)]]⟩ (PoC 2 (.ok (eL (updownF w (m + 1) so st).1)) (clM _ w (updownF w (m + 1) so st).2))
    refine jb_cons (js_if (jt_cmp C (je_len T.len (je_var 1) (by walk_at "len")) je_int (by walk_at "c")) (fun hb => ?_) (fun hb => ?_))
    · have hlt : so.length < 2 := by have := of_decide_eq_true hb; rw [List.length_map] at this; omega
      exact jb_cons (js_ret (je_f (jf_list T.list (je_var 1) (.inl rfl))) ⟨by rw [updownF_base hlt]; rfl, by rw [updownF_base hlt]; rfl⟩)
    have hge : ¬ so.length < 2 := by have := of_decide_eq_false hb; rw [List.length_map] at this; omega
    refine jb_nil ?_
    have p2 : 2 ^ (m + 1) = 2 * 2 ^ m := by rw [Nat.pow_succ]; omega
    rw [Nat.succ_mul] at h4
    have mh : m * (so.length / 2) ≤ m * so.length := Nat.mul_le_mul_left _ (by omega)
    have hl : (List.range (so.length / 2)).length ≤ sizeLine := by rw [List.length_range, sizeLine_eq]; omega
    have at2 : ∀ i, i < so.length → IxD (.lst (so.map eN)) (.int (i : Nat)) (eN (so.getD i 0)) := fun i hi => ix_lst eN 0 hi
    obtain ⟨u, eu⟩ : ∃ u, u = st ++ (List.range (so.length / 2)).map (upSt so) := ⟨_, rfl⟩
    have ul : u.length = st.length + so.length / 2 := by rw [eu, List.length_append, List.length_map, List.length_range]
    have eu2 : (List.range (so.length / 2)).foldl (addS (upSt so)) st = u := by rw [addS_fold, eu]
    have en : foldO (addS (upSt so)) (fun st _ => eN (w + st.length)) st (List.range (so.length / 2)) = (nodesS w st (so.length / 2)).map eN := by rw [nodeS_fold, List.length_range]
    have jx : 2 ≤ so.length := by omega
    refine jb_cons (js_setLc 3 C (lc_to (lc_as (lc_fold 2 (List.range (so.length / 2)) (enc := fun i : Nat => D.int (0 + (i : Int) * ((2 : Nat) : Int))) st (addS (upSt so)) (fun st _ => eN (w + st.length)) (clM _ w) (fun i s => s.length = st.length + i) C (ji_range3 T.range je_int (je_bin (je_len T.len (je_var 1) (by walk_at "len")) je_int (by walk_at "b")) (je_as je_int (show _ = D.int ((2 : Nat) : Int) from rfl)) (by rw [List.length_map]; exact rg2 _ (by omega) jx)) rfl rfl (fun j a b ha _ hQ => ?_)) en) (show _ = (⟨[.c 1, .d (eL so), .u, .u, .u, .u], clM _ w u⟩ : DL.A) by rw [eu2])) ?_)
    · obtain ⟨hj, hj2⟩ := List.getElem?_eq_some_iff.mp ha
      rw [List.length_range] at hj
      rw [List.getElem_range] at hj2
      subst hj2
      refine ⟨by rw [addS, List.length_append, hQ]; rfl, fun _ _ _ _ _ C => ?_⟩
      exact je_meth 0 C hM.cl Fstep (by omega) (ja_val (je_ix (je_var 1) (je_as (je_var 2) (show _ = D.int ((2 * j : Nat) : Int) by congr 1; omega)) (at2 (2 * j) (by omega))) (ja_val (je_ix (je_var 1) (je_as (je_bin (je_var 2) je_int (by walk_at "b")) (show _ = D.int ((2 * j + 1 : Nat) : Int) by congr 1; omega)) (at2 (2 * j + 1) (by omega))) ja_nil)) ⟨w, so.getD (2 * j) 0, so.getD (2 * j + 1) 0, b, by omega, rfl, rfl, rfl, rfl⟩
    obtain ⟨a1, a2⟩ := updown_len w m (nodesS w st (so.length / 2)) u
    rw [nodesS_len] at a1 a2
    have eA : updownF w (m + 1) so st = upEnd w so (updownF w m (nodesS w st (so.length / 2)) u) := by
      rw [updownF, if_neg hge, eu]
    rw [eA]
    refine jb_cons (js_set 4 C (je_callC C ih (Nat.le_refl _) (ja_cell 0 (ja_val (je_var 3) ja_nil)) ⟨w, nodesS w st (so.length / 2), u, ⟨by rw [nodesS_len]; omega, by rw [nodesS_len]; omega, by rw [nodesS_len]; omega, by rw [nodesS_len]; omega⟩, rfl, rfl, rfl, rfl⟩) ?_)
    generalize updownF w m (nodesS w st (so.length / 2)) u = S at *
    have atS : ∀ i, i < so.length / 2 → IxD (.lst (S.1.map eN)) (.int (i : Nat)) (eN (S.1.getD i 0)) := fun i hi => ix_lst eN 0 (by omega)
    refine jb_cons (js_new 5 C (jf_lst (jd_cons (je_ix (je_var 1) je_int (at2 0 (by omega))) jd_nil)) ?_)
    refine jb_cons (js_fold (List.range (so.length - 1)) (upF w so S.1) ([so.getD 0 0], S.2) (fun p => ⟨[.c 1, .d (eL so), .u, .d (eL (nodesS w st (so.length / 2))), .d (eL S.1), .c 2], [.lst (p.2.map eP), .ins _ [("wide", .d (eN w)), ("steps", .c 0)], .lst (p.1.map eN)]⟩) (fun i p => p.1.length = 1 + i ∧ p.2.length ≤ S.2.length + i) C (enc := fun i : Nat => D.int ((1 + i : Nat) : Int)) (ji_range2 T.range (lo := 1) (hi := so.length) je_int (je_as (je_len T.len (je_var 1) (by walk_at "len")) (by rw [List.length_map])) ⟨by omega, by omega⟩) ⟨rfl, Nat.le_refl _⟩ ?_ ?_)
    · intro i k p ha _ hQ
      obtain ⟨q1, q2⟩ := hQ
      obtain ⟨hi, hk⟩ := List.getElem?_eq_some_iff.mp ha
      rw [List.length_range] at hi
      rw [List.getElem_range] at hk
      subst hk
      obtain ⟨l1, l2⟩ := upF_len w so S.1 p i
      refine jg_name 2 C.nd ?_
      refine jb_cons (js_if (jt_cmp C (je_as (je_bin (je_var 2) je_int (by walk_at "b")) (show _ = D.int (((1 + i) % 2 : Nat) : Int) from rfl)) je_int (by walk_at "c")) (fun hb => ?_) (fun hb => ?_))
      · have hodd : (1 + i) % 2 = 1 := by have := of_decide_eq_true hb; omega
        refine jb_cons (js_app 5 2 (je_ix (je_var 4) (je_as (je_bin (je_var 2) je_int (by walk_at "b")) (show _ = D.int (((1 + i) / 2 : Nat) : Int) from rfl)) (atS _ (by omega))) ?_ ?_)
        · rw [List.length_map, sizeLine_eq]; omega
        refine jb_nil ?_
        refine jb_fin (t := ⟨[.c 1, .d (eL so), .u, .d (eL (nodesS w st (so.length / 2))), .d (eL S.1), .c 2], [.lst ((upF w so S.1 p i).2.map eP), .ins _ [("wide", .d (eN w)), ("steps", .c 0)], .lst ((upF w so S.1 p i).1.map eN)]⟩) ⟨rfl, by omega, by omega⟩ ?_
        rw [upF, if_pos hodd, List.map_append (f := eN)]
        rfl
      · have hev : ¬ (1 + i) % 2 = 1 := by have := of_decide_eq_false hb; omega
        refine jb_cons (js_app 5 2 (je_meth 0 C hM.cl Fstep (by omega) (ja_val (je_ix (je_var 4) (je_as (je_bin (je_bin (je_var 2) je_int (by walk_at "b")) je_int (by walk_at "b")) (show _ = D.int (((1 + i) / 2 - 1 : Nat) : Int) by show D.int (((1 + i) / 2 : Nat) - 1 : Int) = _; congr 1; omega)) (atS _ (by omega))) (ja_val (je_ix (je_var 1) (je_var 2) (at2 (1 + i) (by omega))) ja_nil)) ⟨w, S.1.getD ((1 + i) / 2 - 1) 0, so.getD (1 + i) 0, p.2, by omega, rfl, rfl, rfl, rfl⟩) ?_ ?_)
        · rw [List.length_map, sizeLine_eq]; omega
        refine jb_nil ?_
        refine jb_fin (t := ⟨[.c 1, .d (eL so), .u, .d (eL (nodesS w st (so.length / 2))), .d (eL S.1), .c 2], [.lst ((upF w so S.1 p i).2.map eP), .ins _ [("wide", .d (eN w)), ("steps", .c 0)], .lst ((upF w so S.1 p i).1.map eN)]⟩) ⟨rfl, by omega, by omega⟩ ?_
        rw [upF, if_neg hev, List.map_append (f := eN)]
        rfl
    · intro _
      refine jb_freeze 5 2 ?_
      exact jb_cons (js_ret (je_var 5) ⟨rfl, rfl⟩)
abbrev sKnown : Stmt := topS 22
theorem scKnown : FnScope ["word", "wide", "maker", "some"] ["word", "wide"] (defScope sKnown) := ⟨rfl, rfl, rfl, by decide +kernel, rfl, by decide +kernel, by decide +kernel⟩
def words4 : List Str := ["line", "halves", "strides", "updown"]
def preKnown (cK : Addr) : List D → Res → Prop := fun ds r => (∃ j w : Nat, j < 4 ∧ 1 ≤ w ∧ w ≤ 64 ∧ ds = [.str (wordS j), .int (w : Nat)] ∧ r = .ok (knownN j w).e) ∨ ∃ (z : Str) (w : Int), (¬ (1 ≤ w ∧ w ≤ 64) ∨ z ∉ words4) ∧ ds = [.str z, .int w] ∧ r = .er cK
theorem fn_known {f C : Addr} {fd : FuncData} (F : Fun K "known" "known" sKnown f fd) (hb : Binds K fd ["word", "wide"] []) (hm : mg "known" = some (.ref f)) (T : Bt mg) (hM : MkrF K C) {cK : Addr} (xBadKind : ExcOf K mg "BadKind" cK) {t1 : Tok} (mMOST_WIDE : mg "MOST_WIDE" = some (.int 64 t1)) (Mk : MkM Pg w K mg base "Maker" C "wide" "steps" 1)
    (Fnet : MtC Pg w K mg base C "net" 2 2 1 (preMnet C)) (Fin_line : FnC Pg w K mg base "in_line" 2 2 2 (preLay C (fun so st => st.length + so.length ≤ 1000) lineF)) (Fby_strides : FnC Pg w K mg base "by_strides" 2 2 2 (preLay C (fun so st => so.length ≤ 64 ∧ st.length + so.length * so.length ≤ 10000) fun w so st => strideF w so.length so.length 1 so st))
    (Fby_halves : ∀ m, FnC Pg w K mg base "by_halves" 2 2 (2 + m) (preLay C (fun so st => 1 ≤ so.length ∧ so.length ≤ 2 ^ m ∧ so.length ≤ 64 ∧ st.length + m * so.length ≤ 10000) fun w => halvesF w m)) (Fup_and_down : ∀ m, FnC Pg w K mg base "up_and_down" 2 2 (2 + m) (preLay C (fun so st => 1 ≤ so.length ∧ so.length ≤ 2 ^ m ∧ so.length ≤ 64 ∧ st.length + m * so.length ≤ 10000) fun w => updownF w m)) : Fn Pg w K mg base "known" 2 9 (preKnown cK) := by
  refine fn_ok (ps := ["word", "wide"]) F scKnown hb hm (fun ds r h => by rcases h with ⟨_, _, _, _, _, h, _⟩ | ⟨_, _, _, h, _⟩ <;> rw [h] <;> rfl) (by decide) fun cdv A outer s H E C' ds r h => ?_
  obtain ⟨z, wi, rfl⟩ : ∃ (z : Str) (wi : Int), ds = [.str z, .int wi] := by
    rcases h with ⟨j, w, _, _, _, h, _⟩ | ⟨z, w, _, h, _⟩
    · exact ⟨_, _, h⟩
    · exact ⟨_, _, h⟩
  have C := C'
  show JB _ _ _ ⟨[.d (.str z), .d (.int wi), .u, .u], []⟩ _
  have bad : (¬ (1 ≤ wi ∧ wi ≤ 64) ∨ z ∉ words4) → r = .er cK := fun hn => by
    rcases h with ⟨j, w, hj, w1, w2, h, _⟩ | ⟨z', w', _, _, h⟩
    · simp only [List.cons.injEq, D.str.injEq, D.int.injEq, and_true] at h
      obtain ⟨rfl, rfl⟩ := h
      rcases hn with hn | hn
      · exact absurd ⟨by omega, by omega⟩ hn
      · exfalso
        apply hn
        match j, hj with
        | 0, _ => decide
        | 1, _ => decide
        | 2, _ => decide
        | 3, _ => decide
    · exact h
  refine jb_cons (js_if (jt_not (jt_chain C je_int (je_var 1) (by walk_at "c") (je_globI mMOST_WIDE) (by walk_at "c"))) (fun hb => ?_) (fun hb => ?_))
  · exact jb_cons (js_raise C xBadKind (bad (.inl fun z => by
      obtain ⟨z1, z2⟩ := z
      simp [z1, z2] at hb)))
  have hw : 1 ≤ wi ∧ wi ≤ 64 := by
    simp at hb
    exact hb
  obtain ⟨w, rfl⟩ : ∃ w : Nat, wi = (w : Nat) := ⟨wi.toNat, by omega⟩
  have w1 : 1 ≤ w := by omega
  have w2 : w ≤ 64 := by omega
  refine jb_nil ?_
  refine jb_cons (js_make 2 C Mk (by decide) (je_var 1) ?_)
  refine jb_cons (js_set 3 C (je_as (je_f (jf_listR C T.list T.range (je_var 1) (by omega))) (show _ = eL (List.range w) from rfl)) ?_)
  have good : ∀ j, j < 4 → z = wordS j → r = .ok (knownN j w).e := fun j hj e => by
    rcases h with ⟨j', w', hj', _, _, h, h2⟩ | ⟨z', w', hn, h, _⟩
    · simp only [List.cons.injEq, D.str.injEq, D.int.injEq, and_true] at h
      obtain ⟨h, h3⟩ := h
      have ew : w = w' := by omega
      subst ew
      have inj : ∀ a : Nat, a < 4 → ∀ b : Nat, b < 4 → wordS a = wordS b → a = b := by decide +kernel
      rw [inj j hj j' hj' (by rw [← e, ← h])]
      exact h2
    · simp only [List.cons.injEq, D.str.injEq, D.int.injEq, and_true] at h
      obtain ⟨rfl, rfl⟩ := h
      rcases hn with hn | hn
      · exact absurd hw hn
      · exfalso
        apply hn
        rw [e]
        match j, hj with
        | 0, _ => decide
        | 1, _ => decide
        | 2, _ => decide
        | 3, _ => decide
  show JB _ _ _ ⟨[.d (.str z), .d (eN w), .c 1, .d (eL (List.range w))], [.lst (([] : Ps).map eP), .ins _ [("wide", .d (eN w)), ("steps", .c 0)]]⟩ _
  have ok64 : 1 ≤ (List.range w).length ∧ (List.range w).length ≤ 2 ^ 6 ∧ (List.range w).length ≤ 64 ∧ ([] : Ps).length + 6 * (List.range w).length ≤ 10000 := by
    rw [List.length_range]
    refine ⟨w1, w2, w2, ?_⟩
    show 0 + 6 * w ≤ 10000
    omega
  refine jb_cons (js_if (jt_cmp C (je_var 0) je_str (by walk_at "c")) (fun hb => ?_) (fun hb => ?_))
  · refine jb_cons (js_ret (je_meth 2 C hM.cl Fnet (by decide) (ja_val (je_w (je_callC C Fin_line (by decide) (ja_cell 2 (ja_val (je_var 3) ja_nil)) ⟨w, List.range w, [], by show ([] : Ps).length + (List.range w).length ≤ 1000; rw [List.length_range]; show 0 + w ≤ 1000; omega, rfl, rfl, rfl, rfl⟩)) ja_nil) ⟨w, _, _, rfl, rfl, rfl, rfl⟩) ?_)
    exact good 0 (by decide) (of_decide_eq_true hb)
  have n0 := of_decide_eq_false hb
  refine jb_nil ?_
  refine jb_cons (js_if (jt_cmp C (je_var 0) je_str (by walk_at "c")) (fun hb => ?_) (fun hb => ?_))
  · refine jb_cons (js_ret (je_meth 2 C hM.cl Fnet (by decide) (ja_val (je_w (je_callC C (Fby_halves 6) (by decide) (ja_cell 2 (ja_val (je_var 3) ja_nil)) ⟨w, List.range w, [], ok64, rfl, rfl, rfl, rfl⟩)) ja_nil) ⟨w, _, _, rfl, rfl, rfl, rfl⟩) ?_)
    exact good 1 (by decide) (of_decide_eq_true hb)
  have n1 := of_decide_eq_false hb
  refine jb_nil ?_
  refine jb_cons (js_if (jt_cmp C (je_var 0) je_str (by walk_at "c")) (fun hb => ?_) (fun hb => ?_))
  · refine jb_cons (js_ret (je_meth 2 C hM.cl Fnet (by decide) (ja_val (je_w (je_callC C Fby_strides (by decide) (ja_cell 2 (ja_val (je_var 3) ja_nil)) ⟨w, List.range w, [], ⟨by rw [List.length_range]; exact w2, by show ([] : Ps).length + (List.range w).length * (List.range w).length ≤ 10000; rw [List.length_range]; show 0 + w * w ≤ 10000; have : w * w ≤ 64 * 64 := Nat.mul_le_mul w2 w2; omega⟩, rfl, rfl, rfl, rfl⟩)) ja_nil) ⟨w, _, _, rfl, rfl, rfl, rfl⟩) ?_)
    have e := good 2 (by decide) (of_decide_eq_true hb)
    show r = .ok (Nt.e ⟨w, (strideF w (List.range w).length (List.range w).length 1 (List.range w) []).2, (strideF w (List.range w).length (List.range w).length 1 (List.range w) []).1⟩)
    rw [List.length_range]
    exact e
  have n2 := of_decide_eq_false hb
  refine jb_nil ?_
  refine jb_cons (js_if (jt_cmp C (je_var 0) je_str (by walk_at "c")) (fun hb => ?_) (fun hb => ?_))
  · refine jb_cons (js_raise C xBadKind (bad (.inr fun z => ?_)))
    have n3 : ¬ (_ = _) := bnot_dec hb
    simp only [words4, List.mem_cons, List.not_mem_nil, or_false] at z
    rcases z with z | z | z | z
    · exact n0 z
    · exact n1 z
    · exact n2 z
    · exact n3 z
  refine jb_nil ?_
  refine jb_cons (js_ret (je_meth 2 C hM.cl Fnet (by decide) (ja_val (je_w (je_callC C (Fup_and_down 6) (by decide) (ja_cell 2 (ja_val (je_var 3) ja_nil)) ⟨w, List.range w, [], ok64, rfl, rfl, rfl, rfl⟩)) ja_nil) ⟨w, _, _, rfl, rfl, rfl, rfl⟩) ?_)
  exact good 3 (by decide) (bnot_decF hb)
end
end Wk

namespace Sm
open PySem L2 DL
def depF (l : List Nat) (p : Nat × Nat) : List Nat := l ++ [1 + max (l.getD p.1 0) (l.getD p.2 0)]
/-- the depths of the nodes -/
def Nt.dep (n : Nt) : List Nat := n.steps.foldl depF (List.replicate n.wide 0)
theorem dep_len (steps : List (Nat × Nat)) : ∀ l, (steps.foldl depF l).length = l.length + steps.length := by
  induction steps with
  | nil => intro l; rfl
  | cons p r ih => intro l; rw [List.foldl_cons, ih, depF, List.length_append, List.length_cons]; simp; omega
theorem Nt.dep_len (n : Nt) : n.dep.length = n.wide + n.steps.length := by rw [Nt.dep, Sm.dep_len, List.length_replicate]
def maxN : List Nat → Nat
  | [] => 0
  | x :: r => max x (maxN r)
theorem maxN_ge : ∀ {l : List Nat} {x : Nat}, x ∈ l → x ≤ maxN l
  | y :: r, x, h => by
    rw [maxN]
    rcases List.mem_cons.mp h with rfl | h
    · omega
    · have := maxN_ge h; omega
theorem maxN_mem : ∀ {l : List Nat}, l ≠ [] → maxN l ∈ l
  | [x], _ => by rw [maxN, maxN]; simp
  | x :: y :: r, _ => by
    have ih := maxN_mem (l := y :: r) (by simp)
    rw [maxN]
    by_cases h : x ≤ maxN (y :: r)
    · rw [Nat.max_eq_right h]; exact List.mem_cons_of_mem _ ih
    · rw [Nat.max_eq_left (by omega)]; exact List.mem_cons_self
/-- the depth of a net -/
def Nt.depth (n : Nt) : Nat := maxN (n.outs.map fun o => n.dep.getD o 0)
def setT (l : List Bool) (o : Nat) : List Bool := l.set o true
def usF (n : Nt) (l : List Bool) (i : Nat) : List Bool := if l.getD (n.wide + (n.steps.length - 1 - i)) false = true then [(n.steps.getD (n.steps.length - 1 - i) (0, 0)).1, (n.steps.getD (n.steps.length - 1 - i) (0, 0)).2].foldl setT l else l
def Nt.us0 (n : Nt) : List Bool := n.outs.foldl setT (List.replicate (n.wide + n.steps.length) false)
/-- which nodes are used -/
def Nt.used (n : Nt) : List Bool := (List.range n.steps.length).foldl (usF n) n.us0
theorem setT_len (os : List Nat) : ∀ l, (os.foldl setT l).length = l.length := by
  induction os with
  | nil => intro l; rfl
  | cons o r ih => intro l; rw [List.foldl_cons, ih, setT, List.length_set]
theorem usF_len (n : Nt) (l : List Bool) (i : Nat) : (usF n l i).length = l.length := by
  unfold usF
  split
  · exact setT_len _ _
  · rfl
theorem us0_len (n : Nt) : n.us0.length = n.wide + n.steps.length := by rw [Nt.us0, setT_len, List.length_replicate]
theorem usFs_len (n : Nt) (is : List Nat) : ∀ l, (is.foldl (usF n) l).length = l.length := by
  induction is with
  | nil => intro l; rfl
  | cons o r ih => intro l; rw [List.foldl_cons, ih, usF_len]
theorem Nt.used_len (n : Nt) : n.used.length = n.wide + n.steps.length := by rw [Nt.used, usFs_len, us0_len]
def inc (l : List Nat) (o : Nat) : List Nat := l.set o (l.getD o 0 + 1)
theorem inc_len (os : List Nat) : ∀ l, (os.foldl inc l).length = l.length := by
  induction os with
  | nil => intro l; rfl
  | cons o r ih => intro l; rw [List.foldl_cons, ih, inc, List.length_set]
def incP (l : List Nat) (p : Nat × Nat) : List Nat := [p.1, p.2].foldl inc l
theorem incP_len (ps : List (Nat × Nat)) : ∀ l, (ps.foldl incP l).length = l.length := by
  induction ps with
  | nil => intro l; rfl
  | cons o r ih => intro l; rw [List.foldl_cons, ih, incP, inc_len]
/-- how often each node stands -/
def Nt.fan (n : Nt) : List Nat := n.outs.foldl inc (n.steps.foldl incP (List.replicate (n.wide + n.steps.length) 0))
theorem Nt.fan_len (n : Nt) : n.fan.length = n.wide + n.steps.length := by rw [Nt.fan, inc_len, incP_len, List.length_replicate]
end Sm

namespace Sm
open PySem L2 DL
theorem getD_snoc {α : Type} (l : List α) (x d : α) (i : Nat) : (l ++ [x]).getD i d = if i < l.length then l.getD i d else if i = l.length then x else d := by
  rw [List.getD_eq_getElem?_getD, List.getD_eq_getElem?_getD]
  by_cases h : i < l.length
  · rw [List.getElem?_append_left h, if_pos h]
  · rw [List.getElem?_append_right (by omega), if_neg h]
    by_cases e : i = l.length
    · rw [if_pos e, e, Nat.sub_self]; rfl
    · rw [if_neg e]
      have : ([x] : List α)[i - l.length]? = none := by
        rw [List.getElem?_eq_none]
        show 1 ≤ _
        omega
      rw [this]; rfl
end Sm

namespace Sm
open PySem L2 DL
def spanAt (w : Nat) (st : Ps) (x : Nat) : Option (Nat × Nat) := (st.foldl spF (spans0 w)).getD x none
def depAt (w : Nat) (st : Ps) (x : Nat) : Nat := (st.foldl depF (List.replicate w 0)).getD x 0
def okS (w : Nat) (st : Ps) : Prop := ∀ (k : Nat) (p : Nat × Nat), st[k]? = some p → p.1 < w + k ∧ p.2 < w + k
/-- the node x is the stretch a .. b, no deeper than d -/
structure Is (w : Nat) (st : Ps) (x a b d : Nat) : Prop where
  lt : x < w + st.length
  sp : spanAt w st x = some (a, b)
  dp : depAt w st x ≤ d
theorem spl (w : Nat) (st : Ps) : (st.foldl spF (spans0 w)).length = w + st.length := by rw [spF_len, spans0, List.length_map, List.length_range]
theorem dpl (w : Nat) (st : Ps) : (st.foldl depF (List.replicate w 0)).length = w + st.length := by rw [dep_len, List.length_replicate]
theorem span_old {w : Nat} {st : Ps} {p : Nat × Nat} {x : Nat} (h : x < w + st.length) : spanAt w (st ++ [p]) x = spanAt w st x := by
  unfold spanAt
  rw [List.foldl_append]
  show (spF _ p).getD x none = _
  rw [spF, getD_snoc, spl, if_pos h]
theorem dep_old {w : Nat} {st : Ps} {p : Nat × Nat} {x : Nat} (h : x < w + st.length) : depAt w (st ++ [p]) x = depAt w st x := by
  unfold depAt
  rw [List.foldl_append]
  show (depF _ p).getD x 0 = _
  rw [depF, getD_snoc, dpl, if_pos h]
theorem span_new (w : Nat) (st : Ps) (p : Nat × Nat) : spanAt w (st ++ [p]) (w + st.length) = joinS (spanAt w st p.1) (spanAt w st p.2) := by
  unfold spanAt
  rw [List.foldl_append]
  show (spF _ p).getD _ none = _
  rw [spF, getD_snoc, spl, if_neg (Nat.lt_irrefl _), if_pos rfl]
theorem dep_new (w : Nat) (st : Ps) (p : Nat × Nat) : depAt w (st ++ [p]) (w + st.length) = 1 + max (depAt w st p.1) (depAt w st p.2) := by
  unfold depAt
  rw [List.foldl_append]
  show (depF _ p).getD _ 0 = _
  rw [depF, getD_snoc, dpl, if_neg (Nat.lt_irrefl _), if_pos rfl]
theorem Is.old {w : Nat} {st : Ps} {x a b d : Nat} (h : Is w st x a b d) (p : Nat × Nat) : Is w (st ++ [p]) x a b d :=
  ⟨by rw [List.length_append]; have := h.lt; omega, by rw [span_old h.lt]; exact h.sp, by rw [dep_old h.lt]; exact h.dp⟩
theorem Is.new {w : Nat} {st : Ps} {x y a c b d : Nat} (h : Is w st x a c d) (h2 : Is w st y (c + 1) b d) : Is w (st ++ [(x, y)]) (w + st.length) a b (d + 1) :=
  ⟨by rw [List.length_append]; show _ < w + (_ + 1); omega, by
    rw [span_new, h.sp, h2.sp]
    show (if c + 1 = c + 1 then some (a, b) else none) = _
    rw [if_pos rfl], by
    rw [dep_new]
    have := h.dp; have := h2.dp
    dsimp only
    omega⟩
theorem Is.mono {w : Nat} {st : Ps} {x a b d e : Nat} (h : Is w st x a b d) (he : d ≤ e) : Is w st x a b e := ⟨h.lt, h.sp, Nat.le_trans h.dp he⟩
theorem okS.new {w : Nat} {st : Ps} {p : Nat × Nat} (h : okS w st) (h1 : p.1 < w + st.length) (h2 : p.2 < w + st.length) : okS w (st ++ [p]) := fun k q hq => by
  by_cases hk : k < st.length
  · rw [List.getElem?_append_left hk] at hq
    exact h k q hq
  · rw [List.getElem?_append_right (by omega)] at hq
    cases e : k - st.length with
    | zero =>
      rw [e] at hq
      have hq : p = q := Option.some.inj hq
      subst hq
      omega
    | succ i => rw [e] at hq; cases hq
/-- more steps, all else as it was -/
structure Gr (w : Nat) (st st' : Ps) : Prop where
  ok : okS w st → okS w st'
  is : ∀ x a b d, Is w st x a b d → Is w st' x a b d
theorem Gr.refl (w : Nat) (st : Ps) : Gr w st st := ⟨fun h => h, fun _ _ _ _ h => h⟩
theorem Gr.trans {w : Nat} {a b c : Ps} (h : Gr w a b) (k : Gr w b c) : Gr w a c := ⟨fun z => k.ok (h.ok z), fun x i j d z => k.is x i j d (h.is x i j d z)⟩
theorem Gr.one {w : Nat} {st : Ps} {p : Nat × Nat} (h1 : p.1 < w + st.length) (h2 : p.2 < w + st.length) : Gr w st (st ++ [p]) := ⟨fun h => h.new h1 h2, fun _ _ _ _ h => h.old p⟩
/-- many steps at once, of nodes that were there -/
theorem adds {w : Nat} {st : Ps} {a b : Nat → Nat} {d : Nat} : ∀ (ps qs : Ps), Gr w st (st ++ ps) → (∀ i, i < ps.length → Is w (st ++ ps) (w + st.length + i) (a i) (b i) (d + 1)) →
    (∀ (i : Nat) (p : Nat × Nat), qs[i]? = some p → ∃ c, Is w st p.1 (a (ps.length + i)) c d ∧ Is w st p.2 (c + 1) (b (ps.length + i)) d) →
    Gr w st (st ++ (ps ++ qs)) ∧ ∀ i, i < (ps ++ qs).length → Is w (st ++ (ps ++ qs)) (w + st.length + i) (a i) (b i) (d + 1)
  | ps, [], g, h, _ => by rw [List.append_nil]; exact ⟨g, h⟩
  | ps, q :: qs, g, h, hq => by
    obtain ⟨c, h1, h2⟩ := hq 0 q rfl
    have k1 := g.is _ _ _ _ h1
    have k2 := g.is _ _ _ _ h2
    have e : ps ++ q :: qs = (ps ++ [q]) ++ qs := by rw [List.append_assoc]; rfl
    have e2 : st ++ (ps ++ [q]) = (st ++ ps) ++ [q] := by rw [List.append_assoc]
    rw [e]
    refine adds (ps ++ [q]) qs ?_ (fun i hi => ?_) (fun i p hp => ?_)
    · rw [e2]
      exact g.trans (Gr.one k1.lt k2.lt)
    · rw [e2]
      rw [List.length_append] at hi
      by_cases hlt : i < ps.length
      · exact (h i hlt).old q
      · have ei : i = ps.length := by
          have : [q].length = 1 := rfl
          omega
        subst ei
        have z := k1.new k2
        rw [List.length_append] at z
        rw [Nat.add_assoc]
        exact z
    · rw [List.length_append]
      have := hq (i + 1) p hp
      have e3 : ps.length + [q].length + i = ps.length + (i + 1) := by show ps.length + 1 + i = _; omega
      rw [e3]
      exact this
theorem adds0 {w : Nat} {st : Ps} {a b : Nat → Nat} {d : Nat} (qs : Ps) (hq : ∀ (i : Nat) (p : Nat × Nat), qs[i]? = some p → ∃ c, Is w st p.1 (a i) c d ∧ Is w st p.2 (c + 1) (b i) d) :
    Gr w st (st ++ qs) ∧ ∀ i, i < qs.length → Is w (st ++ qs) (w + st.length + i) (a i) (b i) (d + 1) := by
  have h := adds (w := w) (st := st) (a := a) (b := b) (d := d) [] qs (by rw [List.append_nil]; exact Gr.refl _ _) (fun i hi => absurd hi (Nat.not_lt_zero _)) (fun i p hp => by
    have e : ([] : Ps).length + i = i := Nat.zero_add _
    rw [e]
    exact hq i p hp)
  rwa [List.nil_append] at h
theorem fold_inv {α γ : Type} (g : γ → α → γ) (P : Nat → γ → Prop) (l : List α) {b0 : γ} (h0 : P 0 b0) (hs : ∀ i a b, l[i]? = some a → P i b → P (i + 1) (g b a)) : P l.length (l.foldl g b0) := by
  have h : ∀ k, k ≤ l.length → P k ((l.take k).foldl g b0) := by
    intro k
    induction k with
    | zero => intro _; exact h0
    | succ k ih =>
      intro hk
      have e : l[k]? = some l[k] := List.getElem?_eq_getElem (by omega)
      rw [List.take_add_one, e, List.foldl_append]
      exact hs k _ _ e (ih (by omega))
  have := h l.length (Nat.le_refl _)
  rwa [List.take_length] at this
theorem getD_nodes {w : Nat} {st : Ps} {n i : Nat} (h : i < n) : (nodesS w st n).getD i 0 = w + st.length + i := by
  unfold nodesS
  rw [getD_mapR _ _ h]
theorem getD_app {l m : List Nat} {i : Nat} : (l ++ m).getD i 0 = if i < l.length then l.getD i 0 else m.getD (i - l.length) 0 := by
  rw [List.getD_eq_getElem?_getD]
  by_cases h : i < l.length
  · rw [if_pos h, List.getElem?_append_left h, List.getD_eq_getElem?_getD]
  · rw [if_neg h, List.getElem?_append_right (by omega), List.getD_eq_getElem?_getD]
theorem getD_take {l : List Nat} {k i : Nat} (h : i < k) : (l.take k).getD i 0 = l.getD i 0 := by
  rw [List.getD_eq_getElem?_getD, List.getD_eq_getElem?_getD, List.getElem?_take, if_pos h]
theorem getD_drop {l : List Nat} {k i : Nat} : (l.drop k).getD i 0 = l.getD (k + i) 0 := by
  rw [List.getD_eq_getElem?_getD, List.getD_eq_getElem?_getD, List.getElem?_drop]
theorem get_getD {α : Type} {l : List α} {i : Nat} {x d : α} (h : l[i]? = some x) : l.getD i d = x := by
  rw [List.getD_eq_getElem?_getD, h]; rfl
/-- nodes that are stretches behind one another -/
structure Row (w : Nat) (st : Ps) (so : List Nat) (f l : Nat → Nat) (d : Nat) : Prop where
  is : ∀ i, i < so.length → Is w st (so.getD i 0) (f i) (l i) d
  nx : ∀ i, i + 1 < so.length → l i + 1 = f (i + 1)
/-- what a laying tells: all stretches from the first on -/
structure Laid (w : Nat) (st : Ps) (n : Nat) (f l : Nat → Nat) (r : List Nat × Ps) (d : Nat) : Prop where
  gr : Gr w st r.2
  ln : r.1.length = n
  is : ∀ i, i < n → Is w r.2 (r.1.getD i 0) (f 0) (l i) d
theorem Row.on {w : Nat} {st st' : Ps} {so : List Nat} {f l : Nat → Nat} {d e : Nat} (h : Row w st so f l d) (g : Gr w st st') (he : d ≤ e) : Row w st' so f l e := ⟨fun i hi => (g.is _ _ _ _ (h.is i hi)).mono he, h.nx⟩
theorem line_laid {w : Nat} {st : Ps} {so : List Nat} {f l : Nat → Nat} {d : Nat} (h : Row w st so f l d) : Laid w st so.length f l (lineF w so st) (d + so.length) := by
  have z := fold_inv (linF w) (fun k p => p.1.length = k ∧ Gr w st p.2 ∧ ∀ i, i < k → Is w p.2 (p.1.getD i 0) (f 0) (l i) (d + i)) so (b0 := ([], st)) ⟨rfl, Gr.refl _ _, fun i hi => absurd hi (Nat.not_lt_zero _)⟩ (fun k one p ha ⟨h1, h2, h3⟩ => by
    have hk := (List.getElem?_eq_some_iff.mp ha).1
    have hone := h.is k hk
    rw [get_getD ha] at hone
    unfold linF
    by_cases hne : p.1 = []
    · have ek : k = 0 := by rw [← h1, hne]; rfl
      subst ek
      rw [if_pos hne]
      refine ⟨by rw [hne]; rfl, h2, fun i hi => ?_⟩
      have ei : i = 0 := by omega
      subst ei
      rw [hne]
      exact h2.is _ _ _ _ hone
    · rw [if_neg hne]
      have kp : 0 < k := by rw [← h1]; exact List.length_pos_iff.mpr hne
      have hl := h3 (k - 1) (by omega)
      have el : lastN p.1 = p.1.getD (k - 1) 0 := by unfold lastN; rw [h1]
      have n1 : Is w p.2 one (l (k - 1) + 1) (l k) (d + (k - 1)) := by
        have e := h.nx (k - 1) (by omega)
        have e2 : k - 1 + 1 = k := by omega
        rw [e2] at e
        rw [e]
        exact (h2.is _ _ _ _ hone).mono (by omega)
      rw [← el] at hl
      have nw := hl.new n1
      refine ⟨by rw [List.length_append, h1]; rfl, h2.trans (Gr.one hl.lt n1.lt), fun i hi => ?_⟩
      rw [getD_snoc, h1]
      by_cases hlt : i < k
      · rw [if_pos hlt]
        exact (h3 i hlt).old _
      · have ei : i = k := by omega
        subst ei
        rw [if_neg hlt, if_pos rfl]
        have e3 : d + (i - 1) + 1 = d + i := by omega
        rw [e3] at nw
        exact nw)
  obtain ⟨z1, z2, z3⟩ := z
  exact ⟨z2, z1, fun i hi => (z3 i hi).mono (by omega)⟩
theorem halves_laid {w : Nat} : ∀ (m : Nat) (so : List Nat) (st : Ps) (f l : Nat → Nat) (d t : Nat), 1 ≤ so.length → so.length ≤ 2 ^ m → so.length ≤ 2 ^ t → Row w st so f l d → Laid w st so.length f l (halvesF w m so st) (d + t) := by
  intro m
  induction m with
  | zero =>
    intro so st f l d t h1 h2 ht h
    have e : so.length = 1 := by have : so.length ≤ 1 := h2; omega
    refine ⟨Gr.refl _ _, rfl, fun i hi => ?_⟩
    have ei : i = 0 := by omega
    subst ei
    exact (h.is 0 (by omega)).mono (by omega)
  | succ m ih =>
    intro so st f l d t h1 h2 ht h
    by_cases hlt : so.length < 2
    · rw [halvesF, if_pos hlt]
      refine ⟨Gr.refl _ _, rfl, fun i hi => ?_⟩
      have ei : i = 0 := by omega
      subst ei
      exact (h.is 0 (by omega)).mono (by omega)
    · cases t with
      | zero =>
        have : so.length ≤ 1 := ht
        omega
      | succ t =>
        rw [halvesF, if_neg hlt]
        obtain ⟨hf, ehf⟩ : ∃ hf, hf = (so.length + 1) / 2 := ⟨_, rfl⟩
        rw [← ehf]
        have p2 : 2 ^ (m + 1) = 2 * 2 ^ m := by rw [Nat.pow_succ]; omega
        have q2 : 2 ^ (t + 1) = 2 * 2 ^ t := by rw [Nat.pow_succ]; omega
        have la : (so.take hf).length = hf := by rw [List.length_take]; omega
        have lb : (so.drop hf).length = so.length - hf := by rw [List.length_drop]
        have A := ih (so.take hf) st f l d t (by omega) (by omega) (by omega) ⟨fun i hi => by rw [getD_take (by omega)]; exact h.is i (by omega), fun i hi => h.nx i (by omega)⟩
        generalize halvesF w m (so.take hf) st = RA at *
        rw [la] at A
        have B := ih (so.drop hf) RA.2 (fun i => f (hf + i)) (fun i => l (hf + i)) d t (by omega) (by omega) (by omega) ⟨fun i hi => by rw [getD_drop]; exact A.gr.is _ _ _ _ (h.is (hf + i) (by omega)), fun i hi => h.nx (hf + i) (by omega)⟩
        generalize halvesF w m (so.drop hf) RA.2 = RB at *
        rw [lb] at B
        have lastA := B.gr.is _ _ _ _ (A.is (hf - 1) (by omega))
        have eA : RA.1.getD (hf - 1) 0 = lastN RA.1 := by unfold lastN; rw [A.ln]
        rw [eA] at lastA
        have ej : l (hf - 1) + 1 = f hf := by
          have := h.nx (hf - 1) (by omega)
          have e2 : hf - 1 + 1 = hf := by omega
          rwa [e2] at this
        obtain ⟨g1, g2⟩ := adds0 (w := w) (st := RB.2) (a := fun _ => f 0) (b := fun i => l (hf + i)) (d := d + t) (RB.1.map fun one => (lastN RA.1, one)) (fun i p hp => by
          rw [List.getElem?_map] at hp
          cases e : RB.1[i]? with
          | none => rw [e] at hp; cases hp
          | some one =>
            rw [e] at hp
            have hp : (lastN RA.1, one) = p := Option.some.inj hp
            subst hp
            have hi := (List.getElem?_eq_some_iff.mp e).1
            have := B.is i (by rw [← B.ln]; exact hi)
            rw [get_getD e] at this
            refine ⟨l (hf - 1), lastA, ?_⟩
            rw [ej]
            exact this)
        rw [List.length_map, B.ln] at g2
        unfold joinH
        refine ⟨(A.gr.trans B.gr).trans g1, by dsimp only; rw [List.length_append, nodesS_len, A.ln, B.ln]; omega, fun i hi => ?_⟩
        dsimp only
        rw [getD_app, A.ln]
        by_cases hi2 : i < hf
        · rw [if_pos hi2]
          exact ((B.gr.trans g1).is _ _ _ _ (A.is i hi2)).mono (by omega)
        · rw [if_neg hi2, B.ln, getD_nodes (by omega)]
          have := g2 (i - hf) (by omega)
          have e2 : hf + (i - hf) = i := by omega
          rw [e2] at this
          exact this
theorem stride_laid {w : Nat} {st : Ps} {n : Nat} {f l : Nat → Nat} {d T : Nat} (hT : n ≤ 2 ^ T) (nx : ∀ i, i + 1 < n → l i + 1 = f (i + 1)) : ∀ (m s t : Nat) (g : List Nat) (u : Ps), n ≤ s + m → s = 2 ^ t → t ≤ T → g.length = n → Gr w st u → u.length ≤ st.length + t * n →
    (∀ i, i < n → Is w u (g.getD i 0) (f (i + 1 - s)) (l i) (d + t)) → Laid w st n f l (strideF w n m s g u) (d + T) ∧ (strideF w n m s g u).2.length ≤ st.length + T * n
  | 0, s, t, g, u, hm, hs, ht, hg, hu, hz, hi => by
    refine ⟨⟨hu, hg, fun i hlt => ?_⟩, Nat.le_trans hz (Nat.add_le_add_left (Nat.mul_le_mul_right _ ht) _)⟩
    have := hi i hlt
    have e : i + 1 - s = 0 := by omega
    rw [e] at this
    exact this.mono (by omega)
  | m + 1, s, t, g, u, hm, hs, ht, hg, hu, hz, hi => by
    by_cases hlt : s < n
    · rw [strideF, if_pos hlt]
      have s1 : 1 ≤ s := by rw [hs]; exact Nat.one_le_two_pow
      have tT : t < T := by
        rcases Nat.lt_or_ge t T with h | h
        · exact h
        · exfalso
          have : t = T := by omega
          subst this
          omega
      have es : 2 * s = 2 ^ (t + 1) := by rw [Nat.pow_succ, hs]; omega
      obtain ⟨g1, g2⟩ := adds0 (w := w) (st := u) (a := fun i => f (s + i + 1 - 2 * s)) (b := fun i => l (s + i)) (d := d + t) ((List.range (n - s)).map (stepSt g s)) (fun i p hp => by
        rw [List.getElem?_map] at hp
        cases e : (List.range (n - s))[i]? with
        | none => rw [e] at hp; cases hp
        | some j =>
          rw [e] at hp
          obtain ⟨hj1, hj2⟩ := List.getElem?_eq_some_iff.mp e
          rw [List.length_range] at hj1
          rw [List.getElem_range] at hj2
          subst hj2
          have hp : stepSt g s i = p := Option.some.inj hp
          subst hp
          have e1 : s + i - s = i := by omega
          have a1 := hi i (by omega)
          have a2 := hi (s + i) (by omega)
          refine ⟨l i, ?_, ?_⟩
          · show Is w u (g.getD (s + i - s) 0) (f (s + i + 1 - 2 * s)) (l i) (d + t)
            rw [e1]
            have e2 : s + i + 1 - 2 * s = i + 1 - s := by omega
            rw [e2]
            exact a1
          · show Is w u (g.getD (s + i) 0) (l i + 1) (l (s + i)) (d + t)
            rw [nx i (by omega)]
            have e2 : s + i + 1 - s = i + 1 := by omega
            rw [e2] at a2
            exact a2)
      rw [List.length_map, List.length_range] at g2
      refine stride_laid hT nx m (2 * s) (t + 1) _ _ (by omega) es (by omega) (by rw [List.length_append, nodesS_len, List.length_take]; omega) (hu.trans g1) ?_ (fun i hlt2 => ?_)
      · rw [List.length_append, List.length_map, List.length_range, Nat.succ_mul]
        omega
      · have lt : (g.take s).length = s := by rw [List.length_take]; omega
        rw [getD_app, lt]
        by_cases h3 : i < s
        · rw [if_pos h3, getD_take h3]
          have := g1.is _ _ _ _ (hi i hlt2)
          have e1 : i + 1 - 2 * s = i + 1 - s := by omega
          rw [e1]
          exact this.mono (by omega)
        · rw [if_neg h3, getD_nodes (by omega)]
          have := g2 (i - s) (by omega)
          have e1 : s + (i - s) = i := by omega
          rw [e1] at this
          exact this
    · rw [strideF, if_neg hlt]
      refine ⟨⟨hu, hg, fun i hlt2 => ?_⟩, Nat.le_trans hz (Nat.add_le_add_left (Nat.mul_le_mul_right _ ht) _)⟩
      have := hi i hlt2
      have e : i + 1 - s = 0 := by omega
      rw [e] at this
      exact this.mono (by omega)
theorem updown_laid {w : Nat} : ∀ (m : Nat) (so : List Nat) (st : Ps) (f l : Nat → Nat) (d : Nat), 1 ≤ so.length → so.length ≤ 2 ^ m → Row w st so f l d → Laid w st so.length f l (updownF w m so st) (d + 2 * m) := by
  intro m
  induction m with
  | zero =>
    intro so st f l d h1 h2 h
    have e : so.length = 1 := by have : so.length ≤ 1 := h2; omega
    refine ⟨Gr.refl _ _, rfl, fun i hi => ?_⟩
    have ei : i = 0 := by omega
    subst ei
    exact (h.is 0 (by omega)).mono (by omega)
  | succ m ih =>
    intro so st f l d h1 h2 h
    by_cases hlt : so.length < 2
    · rw [updownF, if_pos hlt]
      refine ⟨Gr.refl _ _, rfl, fun i hi => ?_⟩
      have ei : i = 0 := by omega
      subst ei
      exact (h.is 0 (by omega)).mono (by omega)
    · rw [updownF, if_neg hlt]
      have p2 : 2 ^ (m + 1) = 2 * 2 ^ m := by rw [Nat.pow_succ]; omega
      obtain ⟨g1, g2⟩ := adds0 (w := w) (st := st) (a := fun i => f (2 * i)) (b := fun i => l (2 * i + 1)) (d := d) ((List.range (so.length / 2)).map (upSt so)) (fun i p hp => by
        rw [List.getElem?_map] at hp
        cases e : (List.range (so.length / 2))[i]? with
        | none => rw [e] at hp; cases hp
        | some j =>
          rw [e] at hp
          obtain ⟨hj1, hj2⟩ := List.getElem?_eq_some_iff.mp e
          rw [List.length_range] at hj1
          rw [List.getElem_range] at hj2
          subst hj2
          have hp : upSt so i = p := Option.some.inj hp
          subst hp
          refine ⟨l (2 * i), h.is (2 * i) (by omega), ?_⟩
          rw [h.nx (2 * i) (by omega)]
          exact h.is (2 * i + 1) (by omega))
      rw [List.length_map, List.length_range] at g2
      generalize st ++ (List.range (so.length / 2)).map (upSt so) = u at *
      have S := ih (nodesS w st (so.length / 2)) u (fun i => f (2 * i)) (fun i => l (2 * i + 1)) (d + 1) (by rw [nodesS_len]; omega) (by rw [nodesS_len]; omega) ⟨fun i hi => by rw [nodesS_len] at hi; rw [getD_nodes hi]; exact g2 i hi, fun i hi => by rw [nodesS_len] at hi; exact h.nx (2 * i + 1) (by omega)⟩
      rw [nodesS_len] at S
      generalize updownF w m (nodesS w st (so.length / 2)) u = R at *
      unfold upEnd
      have z := fold_inv (upF w so R.1) (fun k p => p.1.length = 1 + k ∧ Gr w R.2 p.2 ∧ ∀ i, i < 1 + k → Is w p.2 (p.1.getD i 0) (f 0) (l i) (d + 1 + 2 * m + 1)) (List.range (so.length - 1)) (b0 := ([so.getD 0 0], R.2)) ⟨rfl, Gr.refl _ _, fun i hi => by
        have ei : i = 0 := by omega
        subst ei
        exact ((g1.trans S.gr).is _ _ _ _ (h.is 0 (by omega))).mono (by omega)⟩ (fun k j p ha ⟨q1, q2, q3⟩ => by
        obtain ⟨hk, hj⟩ := List.getElem?_eq_some_iff.mp ha
        rw [List.length_range] at hk
        rw [List.getElem_range] at hj
        subst hj
        unfold upF
        by_cases hodd : (1 + k) % 2 = 1
        · rw [if_pos hodd]
          refine ⟨by rw [List.length_append, q1]; rfl, q2, fun i hi => ?_⟩
          dsimp only
          rw [getD_snoc, q1]
          by_cases hlt2 : i < 1 + k
          · rw [if_pos hlt2]; exact q3 i hlt2
          · have ei : i = 1 + k := by omega
            rw [if_neg hlt2, if_pos ei]
            have := q2.is _ _ _ _ (S.is ((1 + k) / 2) (by omega))
            have e1 : 2 * ((1 + k) / 2) + 1 = i := by omega
            rw [e1] at this
            exact this.mono (by omega)
        · rw [if_neg hodd]
          have a1 := q2.is _ _ _ _ (S.is ((1 + k) / 2 - 1) (by omega))
          have a2 := q2.is _ _ _ _ ((g1.trans S.gr).is _ _ _ _ (h.is (1 + k) (by omega)))
          have e1 : 2 * ((1 + k) / 2 - 1) + 1 = k := by omega
          rw [e1] at a1
          have e2 := h.nx k (by omega)
          rw [Nat.add_comm 1 k] at a2 ⊢
          rw [← e2] at a2
          have nw := a1.new (a2.mono (show d ≤ d + 1 + 2 * m by omega))
          rw [Nat.add_comm 1 k] at a1 nw
          refine ⟨by rw [List.length_append, q1]; show 1 + k + 1 = _; omega, q2.trans (Gr.one a1.lt a2.lt), fun i hi => ?_⟩
          dsimp only
          rw [getD_snoc, q1]
          by_cases hlt2 : i < 1 + k
          · rw [if_pos hlt2]; exact (q3 i hlt2).old _
          · have ei : i = 1 + k := by omega
            rw [if_neg hlt2, if_pos ei]
            have e4 : i = k + 1 := by omega
            rw [e4]
            exact nw)
      rw [List.length_range] at z
      obtain ⟨z1, z2, z3⟩ := z
      have en : 1 + (so.length - 1) = so.length := by omega
      rw [en] at z1 z3
      exact ⟨(g1.trans S.gr).trans z2, z1, fun i hi => (z3 i hi).mono (by omega)⟩
/-! ### the known nets -/
theorem is_thing {w i : Nat} (h : i < w) : Is w [] i i i 0 := by
  refine ⟨by simpa using h, ?_, ?_⟩
  · show (spans0 w).getD i none = _
    rw [spans0, getD_mapR _ _ h]
  · show (List.replicate w 0).getD i 0 ≤ 0
    rw [List.getD_eq_getElem?_getD, List.getElem?_replicate, if_pos h]
    exact Nat.le_refl _
theorem row_things (w : Nat) : Row w [] (List.range w) (fun i => i) (fun i => i) 0 := by
  refine ⟨fun i hi => ?_, fun _ _ => rfl⟩
  rw [List.length_range] at hi
  have e : (List.range w).getD i 0 = i := by rw [List.getD_eq_getElem?_getD, List.getElem?_range hi]; rfl
  rw [e]
  exact is_thing hi
theorem known_laid {j w : Nat} (hj : j < 4) (h1 : 1 ≤ w) (h2 : w ≤ 64) : (∃ d, Laid w [] w (fun i => i) (fun i => i) (kn j w) d ∧ ∀ t, j = 1 ∨ j = 2 → w ≤ 2 ^ t → t ≤ 6 → Laid w [] w (fun i => i) (fun i => i) (kn j w) t) ∧ (kn j w).2.length ≤ 400 := by
  have lr : (List.range w).length = w := List.length_range
  match j, hj with
  | 0, _ =>
    have z := line_laid (row_things w)
    rw [lr] at z
    refine ⟨⟨_, z, fun t ht => by omega⟩, ?_⟩
    have := fold_inv (linF w) (fun k p => p.2.length ≤ k) (List.range w) (b0 := ([], [])) (Nat.le_refl _) (fun i a b _ hb => by have := (linF_len w b a).2; omega)
    rw [lr] at this
    show (lineF w (List.range w) []).2.length ≤ 400
    unfold lineF
    omega
  | 1, _ =>
    have z : ∀ t, w ≤ 2 ^ t → Laid w [] w (fun i => i) (fun i => i) (kn 1 w) t := fun t ht => by
      have := halves_laid 6 (List.range w) [] (fun i => i) (fun i => i) 0 t (by rw [lr]; exact h1) (by rw [lr]; exact h2) (by rw [lr]; exact ht) (row_things w)
      rw [lr, Nat.zero_add] at this
      exact this
    refine ⟨⟨6, z 6 h2, fun t _ ht _ => z t ht⟩, ?_⟩
    have := (halves_len w 6 (List.range w) []).2
    rw [lr] at this
    show (halvesF w 6 (List.range w) []).2.length ≤ 400
    have e : ([] : Ps).length = 0 := rfl
    omega
  | 2, _ =>
    have z : ∀ t, w ≤ 2 ^ t → Laid w [] w (fun i => i) (fun i => i) (kn 2 w) t ∧ (kn 2 w).2.length ≤ 0 + t * w := fun t ht => by
      have := stride_laid (w := w) (st := []) (n := w) (f := fun i => i) (l := fun i => i) (d := 0) (T := t) ht (fun _ _ => rfl) w 1 0 (List.range w) [] (by omega) rfl (Nat.zero_le _) lr (Gr.refl _ _) (Nat.zero_le _) (fun i hi => (row_things w).is i (by rw [lr]; exact hi))
      rw [Nat.zero_add] at this
      exact this
    refine ⟨⟨6, (z 6 h2).1, fun t _ ht _ => (z t ht).1⟩, ?_⟩
    have := (z 6 h2).2
    omega
  | 3, _ =>
    have z := updown_laid 6 (List.range w) [] (fun i => i) (fun i => i) 0 (by rw [lr]; exact h1) (by rw [lr]; exact h2) (row_things w)
    rw [lr] at z
    refine ⟨⟨_, z, fun t ht => by omega⟩, ?_⟩
    have := (updown_len w 6 (List.range w) []).2
    rw [lr] at this
    show (updownF w 6 (List.range w) []).2.length ≤ 400
    have e : ([] : Ps).length = 0 := rfl
    omega
theorem known_good {j w : Nat} (hj : j < 4) (h1 : 1 ≤ w) (h2 : w ≤ 64) : (knownN j w).good ∧ (knownN j w).steps.length ≤ 400 := by
  obtain ⟨⟨d, L, _⟩, hl⟩ := known_laid hj h1 h2
  refine ⟨⟨h1, h2, by show (kn j w).2.length ≤ 500; omega, L.ln, L.gr.ok fun k p e => by simp at e, fun o ho => ?_⟩, hl⟩
  obtain ⟨i, hi, e⟩ := List.getElem_of_mem ho
  have := (L.is i (by rw [← L.ln]; exact hi)).lt
  have e2 : (kn j w).1.getD i 0 = o := get_getD (List.getElem?_eq_some_iff.mpr ⟨hi, e⟩)
  rw [e2] at this
  exact this
theorem known_right {j w : Nat} (hj : j < 4) (h1 : 1 ≤ w) (h2 : w ≤ 64) : wrongN (knownN j w) "any" = none := by
  obtain ⟨⟨d, L, _⟩, hl⟩ := known_laid hj h1 h2
  refine find_no fun k hk => ?_
  have := (L.is k hk).sp
  unfold badOut
  have e1 : (knownN j w).spans.getD ((knownN j w).outs.getD k 0) none = some (0, k) := this
  rw [e1]
  have n1 : decide (("any" : Str) = "commuting") = false := by decide
  have n2 : decide (("any" : Str) = "greatest") = false := by decide
  simp [n1, n2]
end Sm

namespace Sm
open PySem L2 DL
theorem snoc_ind {α : Type} {P : List α → Prop} (h0 : P []) (hs : ∀ l p, P l → P (l ++ [p])) (l : List α) : P l := by
  have h : ∀ m : List α, P m.reverse := fun m => by
    induction m with
    | nil => exact h0
    | cons a m ih => rw [List.reverse_cons]; exact hs _ _ ih
  have := h l.reverse
  rwa [List.reverse_reverse] at this
theorem okS.cut {w : Nat} {st : Ps} {p : Nat × Nat} (h : okS w (st ++ [p])) : okS w st ∧ p.1 < w + st.length ∧ p.2 < w + st.length := by
  refine ⟨fun k q hq => h k q ?_, h st.length p ?_⟩
  · rw [List.getElem?_append_left (List.getElem?_eq_some_iff.mp hq).1]; exact hq
  · rw [List.getElem?_append_right (Nat.le_refl _), Nat.sub_self]; rfl
theorem joinS_some {x y : Option (Nat × Nat)} {a b : Nat} (h : joinS x y = some (a, b)) : ∃ c, x = some (a, c) ∧ y = some (c + 1, b) := by
  cases x with
  | none => cases h
  | some p =>
    cases y with
    | none => cases h
    | some q =>
      have h : (if p.2 + 1 = q.1 then some (p.1, q.2) else none) = some (a, b) := h
      by_cases e : p.2 + 1 = q.1
      · rw [if_pos e] at h
        obtain ⟨p1, p2⟩ := p
        obtain ⟨q1, q2⟩ := q
        simp at h e
        obtain ⟨rfl, rfl⟩ := h
        exact ⟨p2, rfl, by rw [e]⟩
      · rw [if_neg e] at h; cases h
theorem span_thing {w x : Nat} (h : x < w) : spanAt w [] x = some (x, x) := (is_thing h).sp
theorem new_or {w x : Nat} {st : Ps} {p : Nat × Nat} (h : x < w + (st ++ [p]).length) : x < w + st.length ∨ x = w + st.length := by
  rw [List.length_append] at h
  have h : x < w + (st.length + 1) := h
  omega
/-- a stretch is no longer than its depth lets it be -/
theorem span_pow (w : Nat) (st : Ps) : okS w st → ∀ x a b, x < w + st.length → spanAt w st x = some (a, b) → a ≤ b ∧ b < w ∧ b + 1 ≤ a + 2 ^ depAt w st x := by
  refine snoc_ind (P := fun st => okS w st → ∀ x a b, x < w + st.length → spanAt w st x = some (a, b) → a ≤ b ∧ b < w ∧ b + 1 ≤ a + 2 ^ depAt w st x) ?_ ?_ st
  · intro _ x a b hx h
    have hx : x < w := by simpa using hx
    rw [span_thing hx] at h
    simp at h
    obtain ⟨rfl, rfl⟩ := h
    have : 1 ≤ 2 ^ depAt w [] x := Nat.one_le_two_pow
    omega
  · intro st p ih hok x a b hx h
    obtain ⟨k1, k2, k3⟩ := hok.cut
    rcases new_or hx with hx | hx
    · rw [span_old hx] at h
      rw [dep_old hx]
      exact ih k1 x a b hx h
    · subst hx
      rw [span_new] at h
      rw [dep_new]
      obtain ⟨c, e1, e2⟩ := joinS_some h
      obtain ⟨a1, a2, a3⟩ := ih k1 _ _ _ k2 e1
      obtain ⟨b1, b2, b3⟩ := ih k1 _ _ _ k3 e2
      have m1 : 2 ^ depAt w st p.1 ≤ 2 ^ max (depAt w st p.1) (depAt w st p.2) := Nat.pow_le_pow_right (by decide) (by omega)
      have m2 : 2 ^ depAt w st p.2 ≤ 2 ^ max (depAt w st p.1) (depAt w st p.2) := Nat.pow_le_pow_right (by decide) (by omega)
      rw [Nat.add_comm 1, Nat.pow_succ]
      omega
/-- a step is the stretch q -/
def TS (w : Nat) (st : Ps) (q : Nat × Nat) : Prop := ∃ k, k < st.length ∧ spanAt w st (w + k) = some q
theorem TS.old {w : Nat} {st : Ps} {q : Nat × Nat} (h : TS w st q) (p : Nat × Nat) : TS w (st ++ [p]) q := by
  obtain ⟨k, h1, h2⟩ := h
  exact ⟨k, by rw [List.length_append]; omega, by rw [span_old (by omega)]; exact h2⟩
theorem nd_two {α : Type} {l m : List α} (h1 : l.Nodup) (h2 : m.Nodup) (h : ∀ x ∈ l, x ∉ m) : (l ++ m).Nodup := by
  rw [List.nodup_append]
  exact ⟨h1, h2, fun a ha b hb e => h a ha (by rw [e]; exact hb)⟩
theorem snir (w : Nat) (st : Ps) : okS w st → ∀ x a b, x < w + st.length → spanAt w st x = some (a, b) →
    (∃ L : List (Nat × Nat), L.Nodup ∧ (∀ q ∈ L, a ≤ q.1 ∧ q.1 < q.2 ∧ q.2 ≤ b ∧ TS w st q) ∧ b ≤ a + L.length) ∧ ∃ L : List (Nat × Nat), L.Nodup ∧ (∀ q ∈ L, a < q.1 ∧ q.1 < q.2 ∧ q.2 ≤ b ∧ TS w st q) ∧ b ≤ a + L.length + depAt w st x := by
  refine snoc_ind (P := fun st => okS w st → ∀ x a b, x < w + st.length → spanAt w st x = some (a, b) →
    (∃ L : List (Nat × Nat), L.Nodup ∧ (∀ q ∈ L, a ≤ q.1 ∧ q.1 < q.2 ∧ q.2 ≤ b ∧ TS w st q) ∧ b ≤ a + L.length) ∧ ∃ L : List (Nat × Nat), L.Nodup ∧ (∀ q ∈ L, a < q.1 ∧ q.1 < q.2 ∧ q.2 ≤ b ∧ TS w st q) ∧ b ≤ a + L.length + depAt w st x) ?_ ?_ st
  · intro _ x a b hx h
    have hx : x < w := by simpa using hx
    rw [span_thing hx] at h
    simp at h
    obtain ⟨rfl, rfl⟩ := h
    exact ⟨⟨[], List.nodup_nil, fun _ z => (nomatch z), Nat.le_add_right _ _⟩, ⟨[], List.nodup_nil, fun _ z => (nomatch z), by show x ≤ x + 0 + _; omega⟩⟩
  · intro st p ih hok x a b hx h
    obtain ⟨k1, k2, k3⟩ := hok.cut
    have up : ∀ {P : Nat × Nat → Prop} {L : List (Nat × Nat)}, (∀ q ∈ L, P q ∧ TS w st q) → ∀ q ∈ L, P q ∧ TS w (st ++ [p]) q := fun h q hq => ⟨(h q hq).1, (h q hq).2.old p⟩
    rcases new_or hx with hx | hx
    · rw [span_old hx] at h
      rw [dep_old hx]
      obtain ⟨⟨L, l1, l2, l3⟩, M, m1, m2, m3⟩ := ih k1 x a b hx h
      exact ⟨⟨L, l1, fun q hq => ⟨(l2 q hq).1, (l2 q hq).2.1, (l2 q hq).2.2.1, (l2 q hq).2.2.2.old p⟩, l3⟩, M, m1, fun q hq => ⟨(m2 q hq).1, (m2 q hq).2.1, (m2 q hq).2.2.1, (m2 q hq).2.2.2.old p⟩, m3⟩
    · subst hx
      have hself : TS w (st ++ [p]) (a, b) := ⟨st.length, by rw [List.length_append]; exact Nat.lt_succ_self _, h⟩
      rw [span_new] at h
      rw [dep_new]
      obtain ⟨c, e1, e2⟩ := joinS_some h
      obtain ⟨a1, _, _⟩ := span_pow w st k1 _ _ _ k2 e1
      obtain ⟨b1, _, _⟩ := span_pow w st k1 _ _ _ k3 e2
      obtain ⟨⟨L, l1, l2, l3⟩, M, m1, m2, m3⟩ := ih k1 _ _ _ k2 e1
      obtain ⟨⟨L', l1', l2', l3'⟩, _⟩ := ih k1 _ _ _ k3 e2
      refine ⟨⟨(a, b) :: (L ++ L'), ?_, fun q hq => ?_, ?_⟩, M ++ L', ?_, fun q hq => ?_, ?_⟩
      · rw [List.nodup_cons]
        refine ⟨fun z => ?_, nd_two l1 l1' fun q h1 h2 => ?_⟩
        · rcases List.mem_append.mp z with z | z
          · have := l2 _ z; dsimp only at this; omega
          · have := l2' _ z; dsimp only at this; omega
        · have := l2 q h1; have := l2' q h2; omega
      · rcases List.mem_cons.mp hq with rfl | hq
        · exact ⟨Nat.le_refl _, by dsimp only; omega, Nat.le_refl _, hself⟩
        · rcases List.mem_append.mp hq with hq | hq
          · obtain ⟨z1, z2, z3, z4⟩ := l2 q hq
            exact ⟨z1, z2, by omega, z4.old p⟩
          · obtain ⟨z1, z2, z3, z4⟩ := l2' q hq
            exact ⟨by omega, z2, z3, z4.old p⟩
      · rw [List.length_cons, List.length_append]; omega
      · refine nd_two m1 l1' fun q h1 h2 => ?_
        have := m2 q h1; have := l2' q h2; omega
      · rcases List.mem_append.mp hq with hq | hq
        · obtain ⟨z1, z2, z3, z4⟩ := m2 q hq
          exact ⟨z1, z2, by omega, z4.old p⟩
        · obtain ⟨z1, z2, z3, z4⟩ := l2' q hq
          exact ⟨by omega, z2, z3, z4.old p⟩
      · rw [List.length_append]; omega
theorem nd_sub {α : Type} [DecidableEq α] : ∀ {L M : List α}, L.Nodup → (∀ x ∈ L, x ∈ M) → L.length ≤ M.length
  | [], _, _, _ => Nat.zero_le _
  | a :: L, M, h, hs => by
    rw [List.nodup_cons] at h
    have hm := hs a List.mem_cons_self
    have := nd_sub (L := L) (M := M.erase a) h.2 fun x hx => (List.mem_erase_of_ne (fun e => h.1 (by rw [← e]; exact hx))).mpr (hs x (List.mem_cons_of_mem _ hx))
    rw [List.length_erase_of_mem hm] at this
    have hp := List.length_pos_of_mem hm
    rw [List.length_cons]
    omega
theorem ts_count {w : Nat} {st : Ps} {L : List (Nat × Nat)} (h : L.Nodup) (hT : ∀ q ∈ L, TS w st q) : L.length ≤ st.length := by
  have h1 : (L.map some).Nodup := by
    rw [List.Nodup, List.pairwise_map]
    exact h.imp fun {a b} n e => n (Option.some.inj e)
  have := nd_sub (M := (List.range st.length).map fun k => spanAt w st (w + k)) h1 fun x hx => by
    obtain ⟨q, hq, rfl⟩ := List.mem_map.mp hx
    obtain ⟨k, h2, h3⟩ := hT q hq
    exact List.mem_map.mpr ⟨k, List.mem_range.mpr h2, h3⟩
  rwa [List.length_map, List.length_map, List.length_range] at this
theorem span_out {n : Nt} (hr : wrongN n "any" = none) {k : Nat} (hk : k < n.wide) : spanAt n.wide n.steps (n.outs.getD k 0) = some (0, k) := by
  have hb : badOut n "any" k = false := by
    cases q : badOut n "any" k with
    | false => rfl
    | true => exact absurd q (List.find?_eq_none.mp hr k (List.mem_range.mpr hk))
  unfold badOut at hb
  rw [Bool.or_eq_false_iff, decide_eq_true rfl, Bool.true_and] at hb
  exact bnot_decF hb.1
theorem old_thing {w : Nat} {x : Nat} (hx : x < w) : ∀ st : Ps, spanAt w st x = some (x, x) := by
  refine snoc_ind (span_thing hx) fun st p ih => ?_
  rw [span_old (by omega)]
  exact ih
/-- steps and depth of a right net -/
theorem balance {n : Nt} (hg : n.good) (hr : wrongN n "any" = none) : 2 * n.wide - 2 ≤ n.steps.length + n.depth ∧ n.wide - 1 ≤ n.steps.length ∧ n.wide ≤ 2 ^ n.depth := by
  have w1 := hg.w1
  have hlast : n.outs.getD (n.wide - 1) 0 ∈ n.outs := getD_mem 0 (by rw [hg.lo]; omega)
  have ho : ∀ k, k < n.wide → n.outs.getD k 0 < n.wide + n.steps.length := fun k hk => hg.os _ (getD_mem 0 (by rw [hg.lo]; exact hk))
  have hs := span_out hr (show n.wide - 1 < n.wide by omega)
  have hd : depAt n.wide n.steps (n.outs.getD (n.wide - 1) 0) ≤ n.depth := maxN_ge (List.mem_map.mpr ⟨_, hlast, rfl⟩)
  obtain ⟨_, M, m1, m2, m3⟩ := snir n.wide n.steps hg.st _ _ _ (ho _ (by omega)) hs
  have hp := (span_pow n.wide n.steps hg.st _ _ _ (ho _ (by omega)) hs).2.2
  have hpw : 2 ^ depAt n.wide n.steps (n.outs.getD (n.wide - 1) 0) ≤ 2 ^ n.depth := Nat.pow_le_pow_right (by decide) hd
  have pre : ∀ k, k + 1 < n.wide → TS n.wide n.steps (0, k + 1) := fun k hk => by
    have h1 := span_out hr hk
    have h2 := ho (k + 1) hk
    have h3 : n.wide ≤ n.outs.getD (k + 1) 0 := by
      rcases Nat.lt_or_ge (n.outs.getD (k + 1) 0) n.wide with z | z
      · rw [old_thing z] at h1
        simp at h1
        omega
      · exact z
    refine ⟨n.outs.getD (k + 1) 0 - n.wide, by omega, ?_⟩
    have e : n.wide + (n.outs.getD (k + 1) 0 - n.wide) = n.outs.getD (k + 1) 0 := by omega
    rw [e]
    exact h1
  have nd1 : ((List.range (n.wide - 1)).map fun k => (0, k + 1)).Nodup := by
    rw [List.Nodup, List.pairwise_map]
    exact List.nodup_range.imp fun {a b} h e => h (by simp at e; exact e)
  have mem1 : ∀ q ∈ ((List.range (n.wide - 1)).map fun k => (0, k + 1)), q.1 = 0 ∧ TS n.wide n.steps q := fun q hq => by
    obtain ⟨k, hk, rfl⟩ := List.mem_map.mp hq
    exact ⟨rfl, pre k (by have := List.mem_range.mp hk; omega)⟩
  have c1 := ts_count nd1 fun q hq => (mem1 q hq).2
  have c2 := ts_count (nd_two nd1 m1 fun q h1 h2 => by have := (mem1 q h1).1; have := (m2 q h2).1; omega) fun q hq => by
    rcases List.mem_append.mp hq with hq | hq
    · exact (mem1 q hq).2
    · exact (m2 q hq).2.2.2
  rw [List.length_map, List.length_range] at c1
  rw [List.length_append, List.length_map, List.length_range] at c2
  refine ⟨by omega, c1, by omega⟩
/-! ### the least depth -/
theorem ld_ok (w : Nat) : ∀ (m many found : Nat), many = 2 ^ found → w ≤ many + m → (found = 0 ∨ 2 ^ (found - 1) < w) → w ≤ 2 ^ ldF w m many found ∧ (ldF w m many found = 0 ∨ 2 ^ (ldF w m many found - 1) < w)
  | 0, many, found, h1, h2, h3 => ⟨by show w ≤ 2 ^ found; omega, h3⟩
  | m + 1, many, found, h1, h2, h3 => by
    unfold ldF
    by_cases h : many < w
    · rw [if_pos h]
      have : 1 ≤ many := by rw [h1]; exact Nat.one_le_two_pow
      exact ld_ok w m (2 * many) (found + 1) (by rw [Nat.pow_succ, h1]; omega) (by omega) (.inr (by show 2 ^ found < w; omega))
    · rw [if_neg h]
      exact ⟨by omega, h3⟩
theorem leastD_ok {w : Nat} (h : 1 ≤ w) : w ≤ 2 ^ leastD w ∧ ∀ d, w ≤ 2 ^ d → leastD w ≤ d := by
  obtain ⟨h1, h2⟩ := ld_ok w w 1 0 rfl (by omega) (.inl rfl)
  refine ⟨h1, fun d hd => ?_⟩
  rcases h2 with h2 | h2
  · show ldF w w 1 0 ≤ d; omega
  · rcases Nat.lt_or_ge d (leastD w) with z | z
    · have : 2 ^ d ≤ 2 ^ (leastD w - 1) := Nat.pow_le_pow_right (by decide) (by omega)
      have : 2 ^ (leastD w - 1) < w := h2
      omega
    · exact z
theorem known_depth {j w : Nat} (hj : j = 1 ∨ j = 2) (h1 : 1 ≤ w) (h2 : w ≤ 64) : (knownN j w).depth = leastD w := by
  have hj4 : j < 4 := by omega
  obtain ⟨⟨d, _, L⟩, _⟩ := known_laid hj4 h1 h2
  obtain ⟨e1, e2⟩ := leastD_ok h1
  have L := L (leastD w) hj e1 (e2 6 h2)
  have low := (balance (known_good hj4 h1 h2).1 (known_right hj4 h1 h2)).2.2
  have hne : (knownN j w).outs.map (fun o => (knownN j w).dep.getD o 0) ≠ [] := fun z => by
    have := congrArg List.length z
    rw [List.length_map] at this
    have e : (knownN j w).outs.length = w := L.ln
    rw [e] at this
    simp at this
    omega
  have hm := maxN_mem hne
  obtain ⟨o, ho, e⟩ := List.mem_map.mp hm
  obtain ⟨i, hi, e3⟩ := List.getElem_of_mem ho
  have := (L.is i (by rw [← L.ln]; exact hi)).dp
  have e4 : (kn j w).1.getD i 0 = o := get_getD (List.getElem?_eq_some_iff.mpr ⟨hi, e3⟩)
  rw [e4] at this
  have e5 : (knownN j w).depth = depAt w (kn j w).2 o := e.symm
  have := e2 _ low
  omega
end Sm

namespace Sm
open PySem L2 DL
def kids (n : Nt) (x : Nat) : List Nat := if x < n.wide then [] else [(n.steps.getD (x - n.wide) (0, 0)).1, (n.steps.getD (x - n.wide) (0, 0)).2]
theorem kids_lt {n : Nt} (h : n.good) {x y : Nat} (hx : x < n.wide + n.steps.length) (hy : y ∈ kids n x) : y < n.wide + n.steps.length := by
  unfold kids at hy
  split at hy
  · cases hy
  · rename_i hw
    have hk : x - n.wide < n.steps.length := by omega
    have e : n.steps[x - n.wide]? = some (n.steps.getD (x - n.wide) (0, 0)) := by rw [List.getD_eq_getElem?_getD, List.getElem?_eq_getElem hk]; rfl
    have := h.st _ _ e
    simp only [List.mem_cons, List.not_mem_nil, or_false] at hy
    omega
inductive Und (n : Nt) (r : Nat) : Nat → Prop
  | self : Und n r r
  | kid {x y : Nat} : Und n r x → y ∈ kids n x → Und n r y
theorem getD_set {α : Type} (l : List α) (i x : Nat) (a d : α) : (l.set i a).getD x d = if i = x ∧ x < l.length then a else l.getD x d := by
  rw [List.getD_eq_getElem?_getD, List.getD_eq_getElem?_getD, List.getElem?_set]
  by_cases h : i = x
  · subst h
    by_cases h2 : i < l.length
    · simp [h2]
    · simp [h2]
  · simp [h]
def On (l : List Bool) (x : Nat) : Prop := l.getD x false = true
theorem on_lt {l : List Bool} {x : Nat} (h : On l x) : x < l.length := by
  rcases Nat.lt_or_ge x l.length with h2 | h2
  · exact h2
  · unfold On at h
    rw [List.getD_eq_getElem?_getD, List.getElem?_eq_none h2] at h
    cases h
theorem on_setT (l : List Bool) (o x : Nat) : On (setT l o) x ↔ (o = x ∧ x < l.length) ∨ On l x := by
  unfold On setT
  rw [getD_set]
  split
  · rename_i h
    exact ⟨fun _ => .inl h, fun _ => rfl⟩
  · rename_i h
    exact ⟨.inr, fun z => z.elim (fun z => absurd z h) id⟩
theorem on_setTs (os : List Nat) : ∀ (l : List Bool) (x : Nat), On (os.foldl setT l) x ↔ (x ∈ os ∧ x < l.length) ∨ On l x := by
  induction os with
  | nil => intro l x; simp
  | cons o r ih =>
    intro l x
    rw [List.foldl_cons, ih, on_setT, setT, List.length_set, List.mem_cons]
    constructor
    · rintro (⟨h, h2⟩ | ⟨h, h2⟩ | h)
      · exact .inl ⟨.inr h, h2⟩
      · exact .inl ⟨.inl h.symm, h2⟩
      · exact .inr h
    · rintro (⟨h | h, h2⟩ | h)
      · exact .inr (.inl ⟨h.symm, h2⟩)
      · exact .inl ⟨h, h2⟩
      · exact .inr (.inr h)
theorem on_rep (m x : Nat) : ¬ On (List.replicate m false) x := fun h => by
  have h2 := on_lt h
  rw [List.length_replicate] at h2
  unfold On at h
  rw [List.getD_eq_getElem?_getD, List.getElem?_replicate, if_pos h2] at h
  cases h
theorem kids_at (n : Nt) (k : Nat) : kids n (n.wide + k) = [(n.steps.getD k (0, 0)).1, (n.steps.getD k (0, 0)).2] := by
  unfold kids
  rw [if_neg (by omega), Nat.add_sub_cancel_left]
theorem on_usF (n : Nt) (l : List Bool) (i x : Nat) : On (usF n l i) x ↔ (On l (n.wide + (n.steps.length - 1 - i)) ∧ x ∈ kids n (n.wide + (n.steps.length - 1 - i)) ∧ x < l.length) ∨ On l x := by
  unfold usF
  rw [kids_at]
  split
  · rename_i h
    rw [on_setTs]
    exact ⟨fun z => z.imp (fun z => ⟨h, z⟩) id, fun z => z.imp (fun z => z.2) id⟩
  · rename_i h
    exact ⟨.inr, fun z => z.elim (fun z => absurd z.1 h) id⟩
def usN (n : Nt) (i : Nat) : List Bool := (List.range i).foldl (usF n) n.us0
theorem usN_succ (n : Nt) (i : Nat) : usN n (i + 1) = usF n (usN n i) i := by
  unfold usN
  rw [List.range_succ, List.foldl_append]
  rfl
theorem usN_len (n : Nt) (i : Nat) : (usN n i).length = n.wide + n.steps.length := by unfold usN; rw [usFs_len, us0_len]
theorem usN_inv {n : Nt} (h : n.good) : ∀ i, i ≤ n.steps.length → (∀ x ∈ n.outs, On (usN n i) x) ∧ (∀ x, On (usN n i) x → ∃ o ∈ n.outs, Und n o x) ∧ ∀ k, n.steps.length - i ≤ k → k < n.steps.length → On (usN n i) (n.wide + k) → ∀ y ∈ kids n (n.wide + k), On (usN n i) y := by
  intro i
  induction i with
  | zero =>
    intro _
    refine ⟨fun x hx => ?_, fun x hx => ?_, fun k h1 h2 => absurd h2 (by omega)⟩
    · show On n.us0 x
      unfold Nt.us0
      rw [on_setTs, List.length_replicate]
      exact .inl ⟨hx, h.os x hx⟩
    · have hx : On n.us0 x := hx
      unfold Nt.us0 at hx
      rw [on_setTs] at hx
      rcases hx with hx | hx
      · exact ⟨x, hx.1, .self⟩
      · exact absurd hx (on_rep _ _)
  | succ i ih =>
    intro hi
    obtain ⟨h1, h2, h3⟩ := ih (by omega)
    rw [usN_succ]
    have hl := usN_len n i
    refine ⟨fun x hx => (on_usF ..).mpr (.inr (h1 x hx)), fun x hx => ?_, fun k hk1 hk2 hk y hy => ?_⟩
    · rcases (on_usF ..).mp hx with ⟨ha, hb, _⟩ | hx
      · obtain ⟨o, ho, u⟩ := h2 _ ha
        exact ⟨o, ho, u.kid hb⟩
      · exact h2 x hx
    · have back : On (usN n i) (n.wide + k) := by
        rcases (on_usF ..).mp hk with ⟨ha, hb, _⟩ | hx
        · rw [kids_at] at hb
          have hj : n.steps.length - 1 - i < n.steps.length := by omega
          have e : n.steps[n.steps.length - 1 - i]? = some (n.steps.getD (n.steps.length - 1 - i) (0, 0)) := by rw [List.getD_eq_getElem?_getD, List.getElem?_eq_getElem hj]; rfl
          have := h.st _ _ e
          simp only [List.mem_cons, List.not_mem_nil, or_false] at hb
          omega
        · exact hx
      have ylt : y < n.wide + n.steps.length := kids_lt h (by omega) hy
      by_cases e : k = n.steps.length - 1 - i
      · subst e
        exact (on_usF ..).mpr (.inl ⟨back, hy, by omega⟩)
      · exact (on_usF ..).mpr (.inr (h3 k (by omega) hk2 back y hy))
theorem used_iff {n : Nt} (h : n.good) (x : Nat) : On n.used x ↔ ∃ o ∈ n.outs, Und n o x := by
  obtain ⟨h1, h2, h3⟩ := usN_inv h n.steps.length (Nat.le_refl _)
  suffices key : ∀ o ∈ n.outs, ∀ x, Und n o x → On n.used x from ⟨h2 x, fun ⟨o, ho, u⟩ => key o ho x u⟩
  intro o ho x u
  induction u with
  | self => exact h1 o ho
  | @kid x y _ hy ih =>
    have hx : x < n.wide + n.steps.length := by have := on_lt ih; rwa [Nt.used_len] at this
    have hw : ¬ x < n.wide := fun z => by
      unfold kids at hy
      rw [if_pos z] at hy
      cases hy
    have e : x = n.wide + (x - n.wide) := by omega
    rw [e] at ih hy
    exact h3 (x - n.wide) (by omega) (by omega) ih y hy
end Sm

namespace Sm
open PySem L2 DL
/-! what a net's nodes come to, by any operation -/
section
variable {α : Type} {op : α → α → α} {d : α} {leaf : Nat → α} {w : Nat}
def evF (op : α → α → α) (d : α) (l : List α) (p : Nat × Nat) : List α := l ++ [op (l.getD p.1 d) (l.getD p.2 d)]
def evL (op : α → α → α) (d : α) (leaf : Nat → α) (w : Nat) (st : Ps) : List α := st.foldl (evF op d) ((List.range w).map leaf)
theorem evL_snoc (st : Ps) (p : Nat × Nat) : evL op d leaf w (st ++ [p]) = evF op d (evL op d leaf w st) p := by
  unfold evL
  rw [List.foldl_append]
  rfl
theorem evL_len (st : Ps) : (evL op d leaf w st).length = w + st.length := by
  refine snoc_ind (P := fun st => (evL op d leaf w st).length = w + st.length) ?_ ?_ st
  · show ((List.range w).map leaf).length = _
    rw [List.length_map, List.length_range]
    rfl
  · intro l p ih
    rw [evL_snoc, evF, List.length_append, ih, List.length_append]
    rfl
theorem ev_old {st : Ps} {p : Nat × Nat} {x : Nat} (h : x < w + st.length) : (evL op d leaf w (st ++ [p])).getD x d = (evL op d leaf w st).getD x d := by
  rw [evL_snoc, evF, getD_snoc, evL_len, if_pos h]
theorem ev_new (st : Ps) (p : Nat × Nat) : (evL op d leaf w (st ++ [p])).getD (w + st.length) d = op ((evL op d leaf w st).getD p.1 d) ((evL op d leaf w st).getD p.2 d) := by
  rw [evL_snoc, evF, getD_snoc, evL_len, if_neg (Nat.lt_irrefl _), if_pos rfl]
theorem ev_leaf {x : Nat} (h : x < w) (st : Ps) : (evL op d leaf w st).getD x d = leaf x := by
  refine snoc_ind (P := fun st => (evL op d leaf w st).getD x d = leaf x) ?_ ?_ st
  · show ((List.range w).map leaf).getD x d = _
    rw [getD_mapR _ _ h]
  · intro l p ih
    rw [ev_old (by omega)]
    exact ih
theorem ev_step {st : Ps} : okS w st → ∀ (j : Nat) (p : Nat × Nat), st[j]? = some p → (evL op d leaf w st).getD (w + j) d = op ((evL op d leaf w st).getD p.1 d) ((evL op d leaf w st).getD p.2 d) := by
  refine snoc_ind (P := fun st => okS w st → ∀ (j : Nat) (p : Nat × Nat), st[j]? = some p → (evL op d leaf w st).getD (w + j) d = op ((evL op d leaf w st).getD p.1 d) ((evL op d leaf w st).getD p.2 d)) ?_ ?_ st
  · intro _ j p h
    simp at h
  · intro st q ih hok j p h
    obtain ⟨k1, k2, k3⟩ := hok.cut
    by_cases hj : j < st.length
    · rw [List.getElem?_append_left hj] at h
      have := k1 j p h
      rw [ev_old (by omega), ev_old (by omega), ev_old (by omega)]
      exact ih k1 j p h
    · rw [List.getElem?_append_right (by omega)] at h
      cases e : j - st.length with
      | zero =>
        rw [e] at h
        have h : q = p := Option.some.inj h
        subst h
        have ej : j = st.length := by omega
        subst ej
        rw [ev_new, ev_old k2, ev_old k3]
      | succ i => rw [e] at h; cases h
end
/-! ### pruned -/
def reN (names : List Nat) (p : Nat × Nat) : Nat × Nat := (names.getD p.1 0, names.getD p.2 0)
def prF (n : Nt) (U : List Bool) (q : List Nat × Ps) (k : Nat) : List Nat × Ps :=
  if U.getD (n.wide + k) false = false then (q.1 ++ [0], q.2)
  else if reN q.1 (n.steps.getD k (0, 0)) ∈ q.2 then (q.1 ++ [n.wide + q.2.idxOf (reN q.1 (n.steps.getD k (0, 0)))], q.2)
  else (q.1 ++ [n.wide + q.2.length], q.2 ++ [reN q.1 (n.steps.getD k (0, 0))])
def prAll (n : Nt) (U : List Bool) : List Nat × Ps := (List.range n.steps.length).foldl (prF n U) (List.range n.wide, [])
def Nt.prunedN (n : Nt) : Nt := ⟨n.wide, (prAll n n.used).2, n.outs.map fun o => (prAll n n.used).1.getD o 0⟩
/-- the names so far, the steps so far, of the first k steps -/
structure PrOk (n : Nt) (U : List Bool) (k : Nat) (q : List Nat × Ps) : Prop where
  ln : q.1.length = n.wide + k
  lt : ∀ x, x < n.wide + k → q.1.getD x 0 < n.wide + q.2.length
  ok : okS n.wide q.2
  few : q.2.length ≤ k
  ev : ∀ {α : Type} (op : α → α → α) (d : α) (leaf : Nat → α) (x : Nat), x < n.wide + k → (n.wide ≤ x → U.getD x false = true) → (evL op d leaf n.wide q.2).getD (q.1.getD x 0) d = (evL op d leaf n.wide n.steps).getD x d
  nd : q.2.Nodup
theorem idx_at {l : Ps} {p : Nat × Nat} (h : p ∈ l) : l[l.idxOf p]? = some p := by
  have hl := List.idxOf_lt_length_of_mem h
  rw [List.getElem?_eq_getElem hl, List.getElem_idxOf hl]
theorem idx_first {p : Nat × Nat} : ∀ {l : Ps} {m : Nat} {y : Nat × Nat}, m < l.idxOf p → l[m]? = some y → y ≠ p
  | [], m, y, _, e => by simp at e
  | a :: l, m, y, h, e => by
    by_cases hap : a = p
    · subst hap
      simp at h
    · rw [List.idxOf_cons, beq_eq_false_iff_ne.mpr hap, cond_false] at h
      cases m with
      | zero =>
        have e : a = y := by simpa using e
        rw [← e]
        exact hap
      | succ m => exact idx_first (l := l) (m := m) (by omega) (by simpa using e)
theorem pr_start (n : Nt) (U : List Bool) : PrOk n U 0 (List.range n.wide, []) := by
  have e : ∀ x, x < n.wide → (List.range n.wide).getD x 0 = x := fun x hx => by rw [List.getD_eq_getElem?_getD, List.getElem?_range hx]; rfl
  refine ⟨List.length_range, fun x hx => by dsimp only; rw [e x hx]; exact Nat.lt_of_lt_of_le hx (Nat.le_add_right _ _), fun k p h => by simp at h, Nat.le_refl _, fun op d leaf x hx _ => ?_, List.nodup_nil⟩
  have hx : x < n.wide := hx
  dsimp only
  rw [e x hx, ev_leaf hx, ev_leaf hx]
theorem pr_step {n : Nt} (hg : n.good) {U : List Bool} (hU : ∀ (k : Nat) (p : Nat × Nat), n.steps[k]? = some p → U.getD (n.wide + k) false = true → (n.wide ≤ p.1 → U.getD p.1 false = true) ∧ (n.wide ≤ p.2 → U.getD p.2 false = true)) {k : Nat} (hk : k < n.steps.length) {q : List Nat × Ps} (h : PrOk n U k q) : PrOk n U (k + 1) (prF n U q k) := by
  have w1 := hg.w1
  have hp : n.steps[k]? = some (n.steps.getD k (0, 0)) := by rw [List.getD_eq_getElem?_getD, List.getElem?_eq_getElem hk]; rfl
  generalize n.steps.getD k (0, 0) = p at *
  obtain ⟨p1, p2⟩ := hg.st k p hp
  have eP : n.steps.getD k (0, 0) = p := get_getD hp
  have new : ∀ (nm : Nat), nm < n.wide + q.2.length → (∀ {α : Type} (op : α → α → α) (d : α) (leaf : Nat → α), U.getD (n.wide + k) false = true → (evL op d leaf n.wide q.2).getD nm d = (evL op d leaf n.wide n.steps).getD (n.wide + k) d) → PrOk n U (k + 1) (q.1 ++ [nm], q.2) := fun nm h1 h2 => by
    refine ⟨by rw [List.length_append, h.ln]; rfl, fun x hx => ?_, h.ok, Nat.le_succ_of_le h.few, fun op d leaf x hx hu => ?_, h.nd⟩
    · dsimp only
      rw [getD_snoc, h.ln]
      by_cases hlt : x < n.wide + k
      · rw [if_pos hlt]; exact h.lt x hlt
      · rw [if_neg hlt, if_pos (by omega)]; exact h1
    · dsimp only
      rw [getD_snoc, h.ln]
      by_cases hlt : x < n.wide + k
      · rw [if_pos hlt]; exact h.ev op d leaf x hlt hu
      · have ex : x = n.wide + k := by omega
        subst ex
        rw [if_neg hlt, if_pos rfl]
        exact h2 op d leaf (hu (Nat.le_add_right _ _))
  unfold prF
  rw [eP]
  by_cases hu : U.getD (n.wide + k) false = false
  · rw [if_pos hu]
    exact new 0 (by omega) fun op d leaf z => by rw [hu] at z; cases z
  rw [if_neg hu]
  have hu : U.getD (n.wide + k) false = true := by cases e : U.getD (n.wide + k) false with
    | false => exact absurd e hu
    | true => rfl
  obtain ⟨u1, u2⟩ := hU k p hp hu
  have val : ∀ {α : Type} (op : α → α → α) (d : α) (leaf : Nat → α), op ((evL op d leaf n.wide q.2).getD (q.1.getD p.1 0) d) ((evL op d leaf n.wide q.2).getD (q.1.getD p.2 0) d) = (evL op d leaf n.wide n.steps).getD (n.wide + k) d := fun op d leaf => by
    rw [ev_step hg.st k p hp, h.ev op d leaf p.1 p1 u1, h.ev op d leaf p.2 p2 u2]
  by_cases hm : reN q.1 p ∈ q.2
  · rw [if_pos hm]
    have hi := idx_at hm
    have hlt := (List.getElem?_eq_some_iff.mp hi).1
    refine new _ (by omega) fun op d leaf _ => ?_
    rw [ev_step h.ok _ _ hi]
    exact val op d leaf
  · rw [if_neg hm]
    have l1 := h.lt p.1 p1
    have l2 := h.lt p.2 p2
    refine ⟨by rw [List.length_append, h.ln]; rfl, fun x hx => ?_, h.ok.new l1 l2, by rw [List.length_append]; have := h.few; show _ + 1 ≤ _; omega, fun op d leaf x hx hux => ?_, nd_two h.nd (by simp) fun z hz hz2 => by rw [List.mem_singleton.mp hz2] at hz; exact hm hz⟩
    · dsimp only
      rw [getD_snoc, h.ln, List.length_append]
      by_cases hlt : x < n.wide + k
      · rw [if_pos hlt]; have := h.lt x hlt; omega
      · rw [if_neg hlt, if_pos (by omega)]; show _ < _ + (_ + 1); omega
    · dsimp only
      rw [getD_snoc, h.ln]
      by_cases hlt : x < n.wide + k
      · rw [if_pos hlt, ev_old (h.lt x hlt)]
        exact h.ev op d leaf x hlt hux
      · have ex : x = n.wide + k := by omega
        subst ex
        rw [if_neg hlt, if_pos rfl, ev_new]
        exact val op d leaf
theorem pr_all {n : Nt} (hg : n.good) {U : List Bool} (hU : ∀ (k : Nat) (p : Nat × Nat), n.steps[k]? = some p → U.getD (n.wide + k) false = true → (n.wide ≤ p.1 → U.getD p.1 false = true) ∧ (n.wide ≤ p.2 → U.getD p.2 false = true)) : PrOk n U n.steps.length (prAll n U) := by
  have z := fold_inv (prF n U) (fun k q => PrOk n U k q) (List.range n.steps.length) (pr_start n U) fun i a b ha hb => by
    obtain ⟨hk, hj⟩ := List.getElem?_eq_some_iff.mp ha
    rw [List.length_range] at hk
    rw [List.getElem_range] at hj
    subst hj
    exact pr_step hg hU hk hb
  rwa [List.length_range] at z
/-- what is used holds its nodes -/
theorem used_kids {n : Nt} (hg : n.good) (k : Nat) (p : Nat × Nat) (hp : n.steps[k]? = some p) (hu : n.used.getD (n.wide + k) false = true) : n.used.getD p.1 false = true ∧ n.used.getD p.2 false = true := by
  obtain ⟨o, ho, u⟩ := (used_iff hg (n.wide + k)).mp hu
  have e : n.steps.getD k (0, 0) = p := get_getD hp
  have hk := kids_at n k
  rw [e] at hk
  exact ⟨(used_iff hg p.1).mpr ⟨o, ho, .kid u (by rw [hk]; exact List.mem_cons_self)⟩, (used_iff hg p.2).mpr ⟨o, ho, .kid u (by rw [hk]; exact List.mem_cons_of_mem _ List.mem_cons_self)⟩⟩
theorem pr_ok {n : Nt} (hg : n.good) : PrOk n n.used n.steps.length (prAll n n.used) := pr_all hg fun k p hp hu => ⟨fun _ => (used_kids hg k p hp hu).1, fun _ => (used_kids hg k p hp hu).2⟩
theorem pruned_good {n : Nt} (hg : n.good) : n.prunedN.good := by
  have h := pr_ok hg
  have := hg.ls; have := h.few
  refine ⟨hg.w1, hg.w2, by show (prAll n n.used).2.length ≤ 500; omega, by show (n.outs.map _).length = _; rw [List.length_map]; exact hg.lo, h.ok, fun o ho => ?_⟩
  obtain ⟨x, hx, rfl⟩ := List.mem_map.mp ho
  exact h.lt x (hg.os x hx)
theorem pruned_ev {n : Nt} (hg : n.good) {α : Type} (op : α → α → α) (d : α) (leaf : Nat → α) {k : Nat} (hk : k < n.wide) : (evL op d leaf n.prunedN.wide n.prunedN.steps).getD (n.prunedN.outs.getD k 0) d = (evL op d leaf n.wide n.steps).getD (n.outs.getD k 0) d := by
  have h := pr_ok hg
  have hko : k < n.outs.length := by rw [hg.lo]; exact hk
  have ho := getD_mem 0 hko
  have e : n.prunedN.outs.getD k 0 = (prAll n n.used).1.getD (n.outs.getD k 0) 0 := getD_map (fun o => (prAll n n.used).1.getD o 0) (d := 0) (d0 := 0) hko
  rw [e]
  exact h.ev op d leaf _ (hg.os _ ho) fun _ => (used_iff hg _).mpr ⟨_, ho, .self⟩
theorem pruned_right {n : Nt} (hg : n.good) (hr : wrongN n "any" = none) : wrongN n.prunedN "any" = none := by
  refine find_no fun k hk => ?_
  have h1 : (evL joinS none (fun x => some (x, x)) n.wide n.steps).getD (n.outs.getD k 0) none = some (0, k) := span_out hr hk
  rw [← pruned_ev hg joinS none (fun x => some (x, x)) hk] at h1
  have e1 : n.prunedN.spans.getD (n.prunedN.outs.getD k 0) none = some (0, k) := h1
  unfold badOut
  rw [e1]
  have n1 : decide (("any" : Str) = "commuting") = false := by decide
  have n2 : decide (("any" : Str) = "greatest") = false := by decide
  simp [n1, n2]
end Sm

namespace Sm
open PySem L2 DL
def tri : Nat → Nat
  | 0 => 0
  | k + 1 => tri k + k
/-- a right net has few steps -/
theorem rightN_few {ns : List Int} {k : Nat} : (rightN ns k 6).steps.length ≤ 15 := by
  obtain ⟨w1, w2⟩ := rWide_le (ns := ns) (k := k) (most := 6) (by decide)
  have z := fold_inv (rStep ns k 6) (fun i s => i ≤ rWide ns k 6 → s.ok (rWide ns k 6) ∧ s.st.length ≤ tri i) (List.range (rWide ns k 6)) (b0 := ⟨[], []⟩) (fun _ => ⟨⟨(fun j p e => by simp at e), (fun q hq => nomatch hq), Nat.le_refl _⟩, Nat.le_refl _⟩) fun i a s ha hP hi => by
    obtain ⟨hk, hj⟩ := List.getElem?_eq_some_iff.mp ha
    rw [List.length_range] at hk
    rw [List.getElem_range] at hj
    subst hj
    obtain ⟨p1, p2⟩ := hP (by omega)
    obtain ⟨c1, _, _, c4⟩ := cutF_ok ns (k + 1) (rWide ns k 6) 6 0 i s (by omega) (Nat.zero_le _) hk p1
    refine ⟨c1, ?_⟩
    show (cutF ns (k + 1) (rWide ns k 6) 6 0 i s).2.st.length ≤ tri i + i
    omega
  rw [List.length_range] at z
  have h := (z (Nat.le_refl _)).2
  have t : ∀ m, m < 7 → tri m ≤ 15 := by decide
  have := t _ (show rWide ns k 6 < 7 by omega)
  show (rEnd ns k 6).st.length ≤ 15
  have e : (rEnd ns k 6).st.length ≤ tri (rWide ns k 6) := h
  omega
/-- for each node the things that it puts together -/
def wLeaf (t : Nat) : List Nat := [t]
def Nt.words (n : Nt) : List (List Nat) := evL (· ++ ·) [] wLeaf n.wide n.steps
def eW (l : List Nat) : D := .tup (l.map eN)
theorem inj_eW : Inj eW := inj_tup inj_eN
theorem nols_int : ∀ l : List Nat, D.nols (l.map eN) = true
  | [] => rfl
  | _ :: l => nols_int l
theorem nol_app (a b : List Nat) : D.nol (.tup (a.map eN ++ b.map eN)) = true := by
  rw [← List.map_append]
  exact nols_int _
theorem sh_eW (n : Nat) (l : List Nat) : Sh (n + 1) (eW l) := sh_tup fun x _ => sh_eN n x
end Sm

namespace Sm
open PySem L2 DL
/-! ### what must still follow -/
def tlI (w k : Nat) (t : List Nat) (one : Nat) : List Nat := t.set one (max (t.getD one 0) (t.getD (w + k) 0 + 1))
def tlF (n : Nt) (t : List Nat) (k : Nat) : List Nat := [(n.steps.getD k (0, 0)).1, (n.steps.getD k (0, 0)).2].foldl (tlI n.wide k) t
/-- the steps that are looked at behind the others first: number i is step m - 1 - i -/
def Nt.tailAt (n : Nt) : Nat → List Nat
  | 0 => List.replicate (n.wide + n.steps.length) 0
  | i + 1 => tlF n (n.tailAt i) (n.steps.length - 1 - i)
def Nt.tails (n : Nt) : List Nat := n.tailAt n.steps.length
theorem tlI_len (w k : Nat) (t : List Nat) (one : Nat) : (tlI w k t one).length = t.length := List.length_set
theorem tlF_len (n : Nt) (t : List Nat) (k : Nat) : (tlF n t k).length = t.length := by
  show (tlI _ _ (tlI _ _ t _) _).length = _
  rw [tlI_len, tlI_len]
theorem tailAt_len (n : Nt) : ∀ i, (n.tailAt i).length = n.wide + n.steps.length
  | 0 => List.length_replicate
  | i + 1 => by rw [Nt.tailAt, tlF_len, tailAt_len n i]
theorem tails_len (n : Nt) : n.tails.length = n.wide + n.steps.length := tailAt_len n _
def uses (n : Nt) (k x : Nat) : Prop := x = (n.steps.getD k (0, 0)).1 ∨ x = (n.steps.getD k (0, 0)).2
instance (n : Nt) (k x : Nat) : Decidable (uses n k x) := inferInstanceAs (Decidable (_ ∨ _))
/-- t tells of x how many steps must follow, of the steps from j on -/
structure FarOk (n : Nt) (t : List Nat) (j x : Nat) : Prop where
  ge : ∀ k, j ≤ k → k < n.steps.length → uses n k x → t.getD (n.wide + k) 0 + 1 ≤ t.getD x 0
  eq : t.getD x 0 = 0 ∨ ∃ k, j ≤ k ∧ k < n.steps.length ∧ uses n k x ∧ t.getD x 0 = t.getD (n.wide + k) 0 + 1
theorem getD_set_eq {α : Type} {l : List α} {i : Nat} (x d : α) (h : i < l.length) : (l.set i x).getD i d = x := by
  rw [List.getD_eq_getElem?_getD, List.getElem?_set_self h]; rfl
theorem getD_set_ne {α : Type} {l : List α} {i j : Nat} (x d : α) (h : i ≠ j) : (l.set i x).getD j d = l.getD j d := by
  rw [List.getD_eq_getElem?_getD, List.getElem?_set_ne h, List.getD_eq_getElem?_getD]
theorem tlF_at {n : Nt} (hg : n.good) {t : List Nat} (ht : t.length = n.wide + n.steps.length) {k : Nat} (hk : k < n.steps.length) (x : Nat) :
    (tlF n t k).getD x 0 = if uses n k x then max (t.getD x 0) (t.getD (n.wide + k) 0 + 1) else t.getD x 0 := by
  obtain ⟨p, ep⟩ : ∃ p, p = n.steps.getD k (0, 0) := ⟨_, rfl⟩
  have hp : n.steps[k]? = some p := by rw [ep, List.getD_eq_getElem?_getD, List.getElem?_eq_getElem hk]; rfl
  obtain ⟨p1, p2⟩ := hg.st k p hp
  have hu : uses n k x ↔ (x = p.1 ∨ x = p.2) := by rw [uses, ← ep]
  show (tlI n.wide k (tlI n.wide k t (n.steps.getD k (0, 0)).1) (n.steps.getD k (0, 0)).2).getD x 0 = _
  rw [← ep]
  unfold tlI
  obtain ⟨v, ev⟩ : ∃ v, v = t.getD (n.wide + k) 0 + 1 := ⟨_, rfl⟩
  have e2 : (t.set p.1 (max (t.getD p.1 0) (t.getD (n.wide + k) 0 + 1))).getD (n.wide + k) 0 + 1 = v := by rw [getD_set_ne _ _ (by omega), ev]
  rw [e2, ← ev]
  by_cases h2 : x = p.2
  · subst h2
    rw [getD_set_eq _ _ (by rw [List.length_set]; omega), if_pos (hu.mpr (.inr rfl))]
    by_cases h1 : p.1 = p.2
    · rw [h1, getD_set_eq _ _ (by omega)]; omega
    · rw [getD_set_ne _ _ h1]
  · rw [getD_set_ne _ _ (fun z => h2 z.symm)]
    by_cases h1 : x = p.1
    · subst h1
      rw [getD_set_eq _ _ (by omega), if_pos (hu.mpr (.inl rfl))]
    · rw [getD_set_ne _ _ (fun z => h1 z.symm), if_neg (fun z => (hu.mp z).elim h1 h2)]
theorem far_at {n : Nt} (hg : n.good) : ∀ i, i ≤ n.steps.length → ∀ x, FarOk n (n.tailAt i) (n.steps.length - i) x
  | 0, _, x => ⟨fun k h1 h2 => by omega, .inl (by
    show (List.replicate _ 0).getD x 0 = 0
    rw [List.getD_eq_getElem?_getD, List.getElem?_replicate]
    split <;> rfl)⟩
  | i + 1, hi, x => by
    obtain ⟨k, ek⟩ : ∃ k, k = n.steps.length - 1 - i := ⟨_, rfl⟩
    have hk : k < n.steps.length := by omega
    have e1 : n.steps.length - (i + 1) = k := by omega
    have e2 : n.steps.length - i = k + 1 := by omega
    have at_ := tlF_at hg (tailAt_len n i) hk
    have ih := far_at hg i (by omega)
    rw [e2] at ih
    rw [e1, Nt.tailAt, ← ek]
    have old : ∀ j, k ≤ j → j < n.steps.length → (tlF n (n.tailAt i) k).getD (n.wide + j) 0 = (n.tailAt i).getD (n.wide + j) 0 := fun j h1 h2 => by
      rw [at_, if_neg]
      obtain ⟨p, ep⟩ : ∃ p, p = n.steps.getD k (0, 0) := ⟨_, rfl⟩
      have hp : n.steps[k]? = some p := by rw [ep, List.getD_eq_getElem?_getD, List.getElem?_eq_getElem hk]; rfl
      obtain ⟨p1, p2⟩ := hg.st k p hp
      rw [uses, ← ep]
      omega
    refine ⟨fun j h1 h2 hu => ?_, ?_⟩
    · rw [old j h1 h2]
      by_cases e : j = k
      · subst e
        rw [at_, if_pos hu]
        omega
      · have := (ih x).ge j (by omega) h2 hu
        rw [at_]
        split <;> omega
    · rw [at_]
      by_cases hu : uses n k x
      · rw [if_pos hu]
        by_cases hm : (n.tailAt i).getD x 0 ≤ (n.tailAt i).getD (n.wide + k) 0 + 1
        · exact .inr ⟨k, Nat.le_refl _, hk, hu, by rw [old k (Nat.le_refl _) hk]; omega⟩
        · rcases (ih x).eq with h | ⟨j, h1, h2, h3, h4⟩
          · omega
          · exact .inr ⟨j, by omega, h2, h3, by rw [old j (by omega) h2]; omega⟩
      · rw [if_neg hu]
        rcases (ih x).eq with h | ⟨j, h1, h2, h3, h4⟩
        · exact .inl h
        · exact .inr ⟨j, by omega, h2, h3, by rw [old j (by omega) h2]; exact h4⟩
theorem far_ok {n : Nt} (hg : n.good) (x : Nat) : FarOk n n.tails 0 x := by
  have := far_at hg n.steps.length (Nat.le_refl _) x
  rwa [Nat.sub_self] at this
/-! ### choosing -/
section
variable (far : Nat → Nat)
def bestF (b k : Nat) : Nat := if far b < far k then k else b
def best (R : List Nat) : Nat := R.foldl (bestF far) (R.getD 0 0)
/-- the first j of those that are ready -/
def sel : Nat → List Nat → List Nat
  | 0, _ => []
  | _ + 1, [] => []
  | j + 1, x :: r => best far (x :: r) :: sel j ((x :: r).erase (best far (x :: r)))
/-- a goes ahead of b -/
def ahd (a b : Nat) : Prop := far b < far a ∨ (far a = far b ∧ a ≤ b)
variable {far}
theorem best_fold : ∀ (R : List Nat) (b : Nat), (∀ k ∈ R, b ≤ k) → R.Pairwise (· < ·) → (R.foldl (bestF far) b = b ∨ R.foldl (bestF far) b ∈ R) ∧ ahd far (R.foldl (bestF far) b) b ∧ ∀ k ∈ R, ahd far (R.foldl (bestF far) b) k
  | [], b, _, _ => ⟨.inl rfl, .inr ⟨rfl, Nat.le_refl _⟩, fun _ z => nomatch z⟩
  | x :: r, b, hb, hs => by
    obtain ⟨h1, h2⟩ := List.pairwise_cons.mp hs
    have hbx := hb x List.mem_cons_self
    rw [List.foldl_cons, bestF]
    by_cases h : far b < far x
    · rw [if_pos h]
      obtain ⟨i1, i2, i3⟩ := best_fold r x (fun k hk => Nat.le_of_lt (h1 k hk)) h2
      refine ⟨.inr (i1.elim (fun e => by rw [e]; exact List.mem_cons_self) fun z => List.mem_cons_of_mem _ z), ?_, fun k hk => ?_⟩
      · unfold ahd at *; omega
      · rcases List.mem_cons.mp hk with rfl | hk
        · exact i2
        · exact i3 k hk
    · rw [if_neg h]
      obtain ⟨i1, i2, i3⟩ := best_fold r b (fun k hk => hb k (List.mem_cons_of_mem _ hk)) h2
      refine ⟨i1.elim .inl fun z => .inr (List.mem_cons_of_mem _ z), i2, fun k hk => ?_⟩
      rcases List.mem_cons.mp hk with rfl | hk
      · unfold ahd at *; omega
      · exact i3 k hk
theorem best_mem {R : List Nat} (hs : R.Pairwise (· < ·)) (h : R ≠ []) : best far R ∈ R := by
  cases R with
  | nil => exact absurd rfl h
  | cons x r =>
    have hb : ∀ k ∈ x :: r, x ≤ k := fun k hk => by
      rcases List.mem_cons.mp hk with rfl | hk
      · exact Nat.le_refl _
      · exact Nat.le_of_lt ((List.pairwise_cons.mp hs).1 k hk)
    obtain ⟨i1, _, _⟩ := best_fold (far := far) (x :: r) x hb hs
    exact i1.elim (fun e => by show List.foldl _ x _ ∈ _; rw [e]; exact List.mem_cons_self) id
theorem best_ahd {R : List Nat} (hs : R.Pairwise (· < ·)) {k : Nat} (hk : k ∈ R) : ahd far (best far R) k := by
  cases R with
  | nil => exact nomatch hk
  | cons x r =>
    have hb : ∀ k ∈ x :: r, x ≤ k := fun k hk => by
      rcases List.mem_cons.mp hk with rfl | hk
      · exact Nat.le_refl _
      · exact Nat.le_of_lt ((List.pairwise_cons.mp hs).1 k hk)
    exact (best_fold (far := far) (x :: r) x hb hs).2.2 k hk
theorem erase_pw {R : List Nat} (hs : R.Pairwise (· < ·)) (x : Nat) : (R.erase x).Pairwise (· < ·) := hs.sublist List.erase_sublist
theorem sel_perm : ∀ (j : Nat) (R : List Nat), R.Pairwise (· < ·) → R.length ≤ j → (sel far j R).Perm R
  | 0, R, _, h => by rw [List.eq_nil_of_length_eq_zero (Nat.le_zero.mp h)]; exact .refl _
  | j + 1, [], _, _ => .refl _
  | j + 1, x :: r, hs, h => by
    have hm := best_mem (far := far) hs (by simp)
    have hl : ((x :: r).erase (best far (x :: r))).length ≤ j := by rw [List.length_erase_of_mem hm]; rw [List.length_cons] at h ⊢; omega
    exact ((sel_perm j _ (erase_pw hs _) hl).cons _).trans (List.perm_cons_erase hm).symm
theorem sel_sub : ∀ (j : Nat) (R : List Nat), R.Pairwise (· < ·) → ∀ k ∈ sel far j R, k ∈ R
  | 0, _, _, k, h => nomatch h
  | j + 1, [], _, k, h => nomatch h
  | j + 1, x :: r, hs, k, h => by
    rcases List.mem_cons.mp h with rfl | h
    · exact best_mem hs (by simp)
    · exact List.mem_of_mem_erase (sel_sub j _ (erase_pw hs _) k h)
theorem sel_pw : ∀ (j : Nat) (R : List Nat), R.Pairwise (· < ·) → (sel far j R).Pairwise (ahd far)
  | 0, _, _ => .nil
  | j + 1, [], _ => .nil
  | j + 1, x :: r, hs => .cons (fun k hk => best_ahd hs (List.mem_of_mem_erase (sel_sub j _ (erase_pw hs _) k hk))) (sel_pw j _ (erase_pw hs _))
theorem sel_take : ∀ (i j : Nat) (R : List Nat), (sel far j R).take i = sel far (min i j) R
  | 0, j, R => by rw [Nat.zero_min]; rfl
  | i + 1, 0, R => rfl
  | i + 1, j + 1, [] => by rw [show min (i + 1) (j + 1) = min i j + 1 by omega]; rfl
  | i + 1, j + 1, x :: r => by
    rw [show min (i + 1) (j + 1) = min i j + 1 by omega, sel, List.take_succ_cons, sel_take i j, sel]
theorem sel_nodup (j : Nat) {R : List Nat} (hs : R.Pairwise (· < ·)) : (sel far j R).Nodup := by
  have h1 : R.Nodup := hs.imp fun h => Nat.ne_of_lt h
  have h2 := (sel_perm (far := far) (max j R.length) R hs (by omega)).nodup_iff.mpr h1
  have h3 := sel_take (far := far) j (max j R.length) R
  rw [show min j (max j R.length) = j by omega] at h3
  rw [← h3]
  exact h2.sublist (List.take_sublist _ _)
theorem sel_len (j : Nat) {R : List Nat} (hs : R.Pairwise (· < ·)) : (sel far j R).length = min j R.length := by
  have h3 := sel_take (far := far) j (max j R.length) R
  rw [show min j (max j R.length) = j by omega] at h3
  rw [← h3, List.length_take, (sel_perm (far := far) (max j R.length) R hs (by omega)).length_eq]
theorem sel_nil (j : Nat) : sel far j [] = [] := by cases j <;> rfl
theorem sel_all (j : Nat) {R : List Nat} (hs : R.Pairwise (· < ·)) (h : R.length ≤ j) {k : Nat} (hk : k ∈ R) : k ∈ sel far j R := (sel_perm j R hs h).mem_iff.mpr hk
end
end Sm

namespace Sm
open PySem L2 DL
theorem perm_nd : ∀ {S T : List Nat}, S.Nodup → T.Nodup → (∀ x, x ∈ S ↔ x ∈ T) → S.Perm T
  | [], T, _, _, h => by
    cases T with
    | nil => exact .refl _
    | cons y r => exact nomatch (h y).mpr List.mem_cons_self
  | x :: s, T, hs, ht, h => by
    obtain ⟨h1, h2⟩ := List.nodup_cons.mp hs
    have hx := (h x).mp List.mem_cons_self
    refine ((perm_nd h2 (ht.erase x) fun y => ?_).cons x).trans (List.perm_cons_erase hx).symm
    rw [ht.mem_erase_iff]
    constructor
    · intro hy
      exact ⟨fun e => h1 (by rw [← e]; exact hy), (h y).mp (List.mem_cons_of_mem _ hy)⟩
    · rintro ⟨e, hy⟩
      rcases List.mem_cons.mp ((h y).mpr hy) with z | z
      · exact absurd z e
      · exact z
/-- some of the first m numbers, in order -/
def Sub (m : Nat) (L : List Nat) : Prop := L = (List.range m).filter fun k => decide (k ∈ L)
theorem Sub.of {m : Nat} {p : Nat → Bool} : Sub m ((List.range m).filter p) := by
  unfold Sub
  refine List.filter_congr fun k hk => ?_
  cases e : p k
  · exact (decide_eq_false fun z => by have := (List.mem_filter.mp z).2; rw [e] at this; cases this).symm
  · exact (decide_eq_true (List.mem_filter.mpr ⟨hk, e⟩)).symm
theorem Sub.filter {m : Nat} {L : List Nat} (h : Sub m L) (p : Nat → Bool) : Sub m (L.filter p) := by
  rw [h, List.filter_filter]
  exact Sub.of
theorem Sub.lt {m : Nat} {L : List Nat} (h : Sub m L) {k : Nat} (hk : k ∈ L) : k < m := by
  rw [h] at hk
  exact List.mem_range.mp (List.mem_filter.mp hk).1
theorem Sub.pw {m : Nat} {L : List Nat} (h : Sub m L) : L.Pairwise (· < ·) := by
  rw [h]
  exact List.pairwise_lt_range.sublist List.filter_sublist
theorem Sub.nd {m : Nat} {L : List Nat} (h : Sub m L) : L.Nodup := h.pw.imp fun z => Nat.ne_of_lt z
theorem Sub.range (m : Nat) : Sub m (List.range m) := by
  have := Sub.of (m := m) (p := fun _ => true)
  rwa [List.filter_eq_self.mpr fun _ _ => rfl] at this
theorem Sub.len {m : Nat} {L : List Nat} (h : Sub m L) : L.length ≤ m := by
  rw [h]
  exact Nat.le_trans (List.length_filter_le _ _) (by rw [List.length_range]; exact Nat.le_refl _)
def Nt.far (n : Nt) (k : Nat) : Nat := n.tails.getD (n.wide + k) 0
/-- node x is a step that is left -/
def waits (n : Nt) (L : List Nat) (x : Nat) : Bool := decide (n.wide ≤ x ∧ x - n.wide ∈ L)
def rdy (n : Nt) (L : List Nat) (k : Nat) : Bool := !(waits n L (n.steps.getD k (0, 0)).1 || waits n L (n.steps.getD k (0, 0)).2)
def rdyL (n : Nt) (L : List Nat) : List Nat := L.filter (rdy n L)
def chosen (n : Nt) (W : Nat) (L : List Nat) : List Nat := sel n.far W (rdyL n L)
def here (n : Nt) (W : Nat) (L : List Nat) : List Nat := (List.range n.steps.length).filter fun k => decide (k ∈ chosen n W L)
def next (n : Nt) (W : Nat) (L : List Nat) : List Nat := L.filter fun k => decide (k ∉ chosen n W L)
def roundsF (n : Nt) (W : Nat) : Nat → List Nat → List (List Nat)
  | 0, _ => []
  | _ + 1, [] => []
  | f + 1, x :: r => here n W (x :: r) :: roundsF n W f (next n W (x :: r))
def Nt.rounds (n : Nt) (W : Nat) : List (List Nat) := roundsF n W n.steps.length (List.range n.steps.length)
section
variable {n : Nt} {W : Nat} {L : List Nat}
theorem rdy_sub (h : Sub n.steps.length L) : Sub n.steps.length (rdyL n L) := h.filter _
theorem chosen_sub (h : Sub n.steps.length L) {k : Nat} (hk : k ∈ chosen n W L) : k ∈ L ∧ rdy n L k = true := List.mem_filter.mp (sel_sub W _ (rdy_sub h).pw k hk)
theorem chosen_nd (h : Sub n.steps.length L) : (chosen n W L).Nodup := sel_nodup W (rdy_sub h).pw
theorem next_sub (h : Sub n.steps.length L) : Sub n.steps.length (next n W L) := h.filter _
theorem here_perm (h : Sub n.steps.length L) : (here n W L).Perm (chosen n W L) := perm_nd (Sub.nd Sub.of) (chosen_nd h) fun x => by
  unfold here
  rw [List.mem_filter]
  constructor
  · rintro ⟨_, z⟩
    exact of_decide_eq_true z
  · intro z
    exact ⟨List.mem_range.mpr (h.lt (chosen_sub h z).1), decide_eq_true z⟩
theorem steps_at (hg : n.good) {k : Nat} (hk : k < n.steps.length) : (n.steps.getD k (0, 0)).1 < n.wide + k ∧ (n.steps.getD k (0, 0)).2 < n.wide + k := by
  refine hg.st k _ ?_
  rw [List.getD_eq_getElem?_getD, List.getElem?_eq_getElem hk]
  rfl
theorem rdy_ne (hg : n.good) (h : Sub n.steps.length L) (hL : L ≠ []) : rdyL n L ≠ [] := by
  cases L with
  | nil => exact absurd rfl hL
  | cons x r =>
    have hx : x < n.steps.length := h.lt List.mem_cons_self
    obtain ⟨p1, p2⟩ := steps_at hg hx
    have no : ∀ y, y < n.wide + x → waits n (x :: r) y = false := fun y hy => decide_eq_false fun ⟨z1, z2⟩ => by
      rcases List.mem_cons.mp z2 with e | z
      · omega
      · have := (List.pairwise_cons.mp h.pw).1 _ z
        omega
    intro e
    have : x ∈ rdyL n (x :: r) := List.mem_filter.mpr ⟨List.mem_cons_self, by rw [rdy, no _ p1, no _ p2]; rfl⟩
    rw [e] at this
    cases this
theorem split_len (h : Sub n.steps.length L) : L.length = (next n W L).length + (chosen n W L).length := by
  have h1 := List.length_eq_countP_add_countP (fun k => decide (k ∈ chosen n W L)) (l := L)
  rw [List.countP_eq_length_filter, List.countP_eq_length_filter] at h1
  have h2 : (L.filter fun k => decide (k ∈ chosen n W L)).Perm (chosen n W L) := perm_nd (h.filter _).nd (chosen_nd h) fun x => by
    rw [List.mem_filter]
    exact ⟨fun z => of_decide_eq_true z.2, fun z => ⟨(chosen_sub h z).1, decide_eq_true z⟩⟩
  rw [h2.length_eq] at h1
  have h3 : (next n W L) = L.filter fun a => decide ¬decide (a ∈ chosen n W L) = true := List.filter_congr fun k _ => by
    by_cases e : k ∈ chosen n W L
    · rw [decide_eq_false (fun z => z e), decide_eq_true e]; rfl
    · rw [decide_eq_true e, decide_eq_false e]; rfl
  rw [h3]
  omega
theorem chosen_len (h : Sub n.steps.length L) : (chosen n W L).length = min W (rdyL n L).length := sel_len W (rdy_sub h).pw
theorem next_lt (hg : n.good) (hW : 1 ≤ W) (h : Sub n.steps.length L) (hL : L ≠ []) : (next n W L).length < L.length := by
  have h1 := split_len (W := W) h
  have h2 := chosen_len (W := W) h
  have h3 := List.length_pos_iff.mpr (rdy_ne hg h hL)
  omega
theorem rounds_ceil (hg : n.good) (hW : 1 ≤ W) : ∀ (f : Nat) (L : List Nat), Sub n.steps.length L → L.length ≤ f → L.length ≤ W * (roundsF n W f L).length
  | 0, L, _, hf => by rw [Nat.le_zero.mp hf]; exact Nat.zero_le _
  | f + 1, [], _, _ => Nat.zero_le _
  | f + 1, x :: r, h, hf => by
    have h1 := split_len (W := W) h
    have h2 := chosen_len (W := W) h
    have h3 := next_lt hg hW h (by simp)
    have ih := rounds_ceil hg hW f (next n W (x :: r)) (next_sub h) (by omega)
    show (x :: r).length ≤ W * ((roundsF n W f (next n W (x :: r))).length + 1)
    rw [Nat.mul_succ]
    omega
def Nt.dp (n : Nt) (k : Nat) : Nat := n.dep.getD (n.wide + k) 0
theorem dep_ev (n : Nt) : n.dep = evL (fun a b => 1 + max a b) 0 (fun _ => 0) n.wide n.steps := by
  unfold Nt.dep evL
  rw [List.map_const', List.length_range]
  rfl
theorem dep_thing {x : Nat} (h : x < n.wide) : n.dep.getD x 0 = 0 := by rw [dep_ev, ev_leaf h]
theorem dp_step (hg : n.good) {k : Nat} (hk : k < n.steps.length) : n.dp k = 1 + max (n.dep.getD (n.steps.getD k (0, 0)).1 0) (n.dep.getD (n.steps.getD k (0, 0)).2 0) := by
  unfold Nt.dp
  rw [dep_ev]
  refine ev_step hg.st k _ ?_
  rw [List.getD_eq_getElem?_getD, List.getElem?_eq_getElem hk]
  rfl
/-- a node that is not left is no deeper than r -/
theorem dep_le {r : Nat} (hd : ∀ k, k < n.steps.length → k ∉ L → n.dp k ≤ r) {x : Nat} (hx : x < n.wide + n.steps.length) (hw : waits n L x = false) : n.dep.getD x 0 ≤ r := by
  by_cases h : x < n.wide
  · rw [dep_thing h]; exact Nat.zero_le _
  · have e : x = n.wide + (x - n.wide) := by omega
    have hw := of_decide_eq_false hw
    have := hd (x - n.wide) (by omega) (fun z => hw ⟨by omega, z⟩)
    rw [Nt.dp, ← e] at this
    exact this
theorem done_next (hg : n.good) (h : Sub n.steps.length L) {r : Nat} (hd : ∀ k, k < n.steps.length → k ∉ L → n.dp k ≤ r) : ∀ k, k < n.steps.length → k ∉ next n W L → n.dp k ≤ r + 1 := fun k hk hn => by
  by_cases hL : k ∈ L
  · have hc : k ∈ chosen n W L := by
      by_cases z : k ∈ chosen n W L
      · exact z
      · exact absurd (List.mem_filter.mpr ⟨hL, decide_eq_true z⟩) hn
    have hr := (chosen_sub h hc).2
    unfold rdy at hr
    rw [Bool.not_eq_true', Bool.or_eq_false_iff] at hr
    obtain ⟨p1, p2⟩ := steps_at hg hk
    have a1 := dep_le hd (by omega) hr.1
    have a2 := dep_le hd (by omega) hr.2
    rw [dp_step hg hk]
    omega
  · have := hd k hk hL
    omega
theorem rounds_deep (hg : n.good) (hW : 1 ≤ W) : ∀ (f : Nat) (L : List Nat) (r : Nat), Sub n.steps.length L → L.length ≤ f → (∀ k, k < n.steps.length → k ∉ L → n.dp k ≤ r) → ∀ k, k < n.steps.length → n.dp k ≤ r + (roundsF n W f L).length
  | 0, L, r, _, hf, hd, k, hk => hd k hk (by rw [List.eq_nil_of_length_eq_zero (Nat.le_zero.mp hf)]; exact fun z => nomatch z)
  | f + 1, [], r, _, _, hd, k, hk => hd k hk fun z => nomatch z
  | f + 1, x :: t, r, h, hf, hd, k, hk => by
    have h3 := next_lt hg hW h (by simp)
    have ih := rounds_deep hg hW f (next n W (x :: t)) (r + 1) (next_sub h) (by omega) (done_next hg h hd) k hk
    rw [roundsF, List.length_cons]
    omega
theorem rounds_one (hg : n.good) : ∀ (f : Nat) (L : List Nat), Sub n.steps.length L → L.length ≤ f → (roundsF n 1 f L).length = L.length
  | 0, L, _, hf => by rw [Nat.le_zero.mp hf]; rfl
  | f + 1, [], _, _ => rfl
  | f + 1, x :: r, h, hf => by
    have h1 := split_len (W := 1) h
    have h2 := chosen_len (W := 1) h
    have h4 := List.length_pos_iff.mpr (rdy_ne hg h (by simp))
    have ih := rounds_one hg f (next n 1 (x :: r)) (next_sub h) (by omega)
    rw [roundsF, List.length_cons, ih]
    omega
theorem rounds_many (hg : n.good) (hW : 1 ≤ W) (hm : n.steps.length ≤ W) {M : Nat} (hM : ∀ k, k < n.steps.length → n.dp k ≤ M) : ∀ (f : Nat) (L : List Nat) (r : Nat), Sub n.steps.length L → L.length ≤ f → r ≤ M → (∀ k ∈ L, r < n.dp k) → (roundsF n W f L).length + r ≤ M
  | 0, L, r, _, _, hr, _ => by show 0 + r ≤ M; omega
  | f + 1, [], r, _, _, hr, _ => by show 0 + r ≤ M; omega
  | f + 1, x :: t, r, h, hf, hr, hd => by
    have h3 := next_lt hg hW h (by simp)
    have hx := hd x List.mem_cons_self
    have hx2 := hM x (h.lt List.mem_cons_self)
    have ih := rounds_many hg hW hm hM f (next n W (x :: t)) (r + 1) (next_sub h) (by omega) (by omega) fun k hk => by
      obtain ⟨hk1, hk2⟩ := List.mem_filter.mp hk
      have hk2 := of_decide_eq_true hk2
      have hkm := h.lt hk1
      have nr : rdy n (x :: t) k = false := by
        cases e : rdy n (x :: t) k with
        | false => rfl
        | true => exact absurd (sel_all W (rdy_sub h).pw (by have := (rdy_sub h).len; omega) (List.mem_filter.mpr ⟨hk1, e⟩)) hk2
      unfold rdy at nr
      have nr : (waits n (x :: t) (n.steps.getD k (0, 0)).1 || waits n (x :: t) (n.steps.getD k (0, 0)).2) = true := by
        cases e : (waits n (x :: t) (n.steps.getD k (0, 0)).1 || waits n (x :: t) (n.steps.getD k (0, 0)).2) with
        | true => rfl
        | false => rw [e] at nr; cases nr
      have deep : ∀ y, waits n (x :: t) y = true → r < n.dep.getD y 0 := fun y hy => by
        obtain ⟨z1, z2⟩ := of_decide_eq_true hy
        have := hd _ z2
        have e : n.wide + (y - n.wide) = y := by omega
        rw [Nt.dp, e] at this
        exact this
      rw [dp_step hg hkm]
      rcases (Bool.or_eq_true _ _).mp nr with z | z
      · have := deep _ z; omega
      · have := deep _ z; omega
    rw [roundsF, List.length_cons]
    omega
end
/-- how many rounds at least -/
def fewN (m W : Nat) : Nat := (m + (W - 1)) / W
def Nt.leastR (n : Nt) (W : Nat) : Nat := max (fewN n.steps.length W) (maxN n.dep)
theorem fewN_le {m W c : Nat} (hW : 1 ≤ W) (h : m ≤ W * c) : fewN m W ≤ c := by
  unfold fewN
  have : (m + (W - 1)) / W < c + 1 := by
    rw [Nat.div_lt_iff_lt_mul (by omega), Nat.add_mul, Nat.mul_comm c W]
    omega
  omega
theorem fewN_ge {m W : Nat} (hW : 1 ≤ W) : m ≤ fewN m W * W := by
  unfold fewN
  have h1 := Nat.div_add_mod (m + (W - 1)) W
  have h2 := Nat.mod_lt (m + (W - 1)) (show W > 0 by omega)
  rw [Nat.mul_comm] at h1
  omega
theorem maxdep_le {n : Nt} {M : Nat} (h : ∀ k, k < n.steps.length → n.dp k ≤ M) : maxN n.dep ≤ M := by
  by_cases hn : n.dep = []
  · rw [hn]; exact Nat.zero_le _
  · have := maxN_mem hn
    obtain ⟨i, hi, e⟩ := List.getElem_of_mem this
    rw [n.dep_len] at hi
    have e2 : n.dep.getD i 0 = maxN n.dep := by rw [List.getD_eq_getElem?_getD, List.getElem?_eq_getElem (by rw [n.dep_len]; exact hi), e]; rfl
    rw [← e2]
    by_cases hw : i < n.wide
    · rw [dep_thing hw]; exact Nat.zero_le _
    · have := h (i - n.wide) (by omega)
      rw [Nt.dp, show n.wide + (i - n.wide) = i by omega] at this
      exact this
theorem dp_le_max {n : Nt} {k : Nat} (hk : k < n.steps.length) : n.dp k ≤ maxN n.dep := maxN_ge (getD_mem 0 (by rw [n.dep_len]; omega))
theorem rounds_least {n : Nt} (hg : n.good) {W : Nat} (hW : 1 ≤ W) : n.leastR W ≤ (n.rounds W).length := by
  have h1 := rounds_ceil hg hW n.steps.length (List.range n.steps.length) (Sub.range _) (by rw [List.length_range]; exact Nat.le_refl _)
  rw [List.length_range] at h1
  have h2 := rounds_deep hg hW n.steps.length (List.range n.steps.length) 0 (Sub.range _) (by rw [List.length_range]; exact Nat.le_refl _) (fun k hk z => absurd (List.mem_range.mpr hk) z)
  refine Nat.max_le.mpr ⟨fewN_le hW h1, maxdep_le fun k hk => ?_⟩
  have := h2 k hk
  rw [Nat.zero_add] at this
  exact this
theorem rounds_1 {n : Nt} (hg : n.good) : (n.rounds 1).length = n.leastR 1 := by
  refine Nat.le_antisymm ?_ (rounds_least hg (Nat.le_refl _))
  have h1 := rounds_one hg n.steps.length (List.range n.steps.length) (Sub.range _) (by rw [List.length_range]; exact Nat.le_refl _)
  rw [List.length_range] at h1
  rw [Nt.rounds, h1]
  have : fewN n.steps.length 1 = n.steps.length := by unfold fewN; rw [Nat.div_one]; rfl
  unfold Nt.leastR
  omega
theorem rounds_wide {n : Nt} (hg : n.good) {W : Nat} (hW : 1 ≤ W) (hm : n.steps.length ≤ W) : (n.rounds W).length = n.leastR W := by
  refine Nat.le_antisymm ?_ (rounds_least hg hW)
  have := rounds_many hg hW hm (M := maxN n.dep) (fun k hk => dp_le_max hk) n.steps.length (List.range n.steps.length) 0 (Sub.range _) (by rw [List.length_range]; exact Nat.le_refl _) (Nat.zero_le _) fun k hk => by
    rw [dp_step hg (List.mem_range.mp hk)]
    omega
  unfold Nt.leastR
  rw [Nt.rounds]
  omega
end Sm

namespace Wk
open PySem PySem.Spec PyProof.Rows L2 DL Sm
/-- the classes of errors, and what isinstance says of one of them -/
structure RefF (K : PySem.W.Frag) (mg : Str → Option Value) (c : Addr) (j : Nat) : Prop where
  lt : j < 5
  E : ExcC K c
  ex : ∃ cK cN cR cT cW : Addr, (mg "BadKind" = some (.ref cK) ∧ mg "BadNet" = some (.ref cN) ∧ mg "BadRow" = some (.ref cR) ∧ mg "BadText" = some (.ref cT) ∧ mg "Wrong" = some (.ref cW)) ∧
    PySem.W.kitOne K (.ref c) (.ref cK) = some (decide (j = 0)) ∧ PySem.W.kitOne K (.ref c) (.ref cN) = some (decide (j = 1)) ∧ PySem.W.kitOne K (.ref c) (.ref cR) = some (decide (j = 2)) ∧ PySem.W.kitOne K (.ref c) (.ref cT) = some (decide (j = 3)) ∧ PySem.W.kitOne K (.ref c) (.ref cW) = some (decide (j = 4))
  v : PySem.W.kitOne K (.ref c) (.type "ValueError") = some true
def refS : List Str := ["kind", "net", "row", "text", "not"]
def kinds5 (j : Nat) : List Bool := [decide (j = 0), decide (j = 1), decide (j = 2)] ++ [decide (j = 3), decide (j = 4)]
theorem kinds_ok : ∀ j, j < 5 → (kinds5 j).count true = 1 ∧ (kinds5 j)[j]? = some true ∧ (∀ m z, m < j → (kinds5 j)[m]? = some z → z = false) ∧ ([D.str "kind", .str "net", .str "row", .str "text", .str "not"] : List D).getD j .non = .str (refS.getD j "")
  | 0, _ => ⟨by decide, rfl, fun m z h => absurd h (Nat.not_lt_zero _), rfl⟩
  | 1, _ => ⟨by decide, rfl, fun m z h e => by
      match m, h with
      | 0, _ => exact (Option.some.inj e).symm, rfl⟩
  | 2, _ => ⟨by decide, rfl, fun m z h e => by
      match m, h with
      | 0, _ => exact (Option.some.inj e).symm
      | 1, _ => exact (Option.some.inj e).symm, rfl⟩
  | 3, _ => ⟨by decide, rfl, fun m z h e => by
      match m, h with
      | 0, _ => exact (Option.some.inj e).symm
      | 1, _ => exact (Option.some.inj e).symm
      | 2, _ => exact (Option.some.inj e).symm, rfl⟩
  | 4, _ => ⟨by decide, rfl, fun m z h e => by
      match m, h with
      | 0, _ => exact (Option.some.inj e).symm
      | 1, _ => exact (Option.some.inj e).symm
      | 2, _ => exact (Option.some.inj e).symm
      | 3, _ => exact (Option.some.inj e).symm, rfl⟩
section
variable {Pg : Program} {w : World} {K : PySem.W.Frag} {mg : Str → Option Value} {base : Heap}
abbrev sRefusal : Stmt := topS 30
theorem scRefusal : FnScope ["_law_kept", "_law_kinds"] ["_law_kept"] (defScope sRefusal) := ⟨rfl, rfl, rfl, by decide +kernel, rfl, by decide +kernel, by decide +kernel⟩
def preRefusal (K : PySem.W.Frag) (mg : Str → Option Value) : List D → Res → Prop := fun ds r => ∃ (c : Addr) (j : Nat), RefF K mg c j ∧ ds = [.exc c] ∧ r = .ok (.str (refS.getD j ""))
theorem fn_refusal {f : Addr} {fd : FuncData} (F : Fun K "_law_refusal" "_law_refusal" sRefusal f fd) (hb : Binds K fd ["_law_kept"] []) (hm : mg "_law_refusal" = some (.ref f)) (T : Bt mg) : Fn Pg w K mg base "_law_refusal" 1 1 (preRefusal K mg) := by
  refine fn_ok (ps := ["_law_kept"]) F scRefusal hb hm (fun ds r ⟨c, j, _, h, _⟩ => by rw [h]; rfl) (by decide) fun cdv A outer s H E C ds r h => ?_
  obtain ⟨c, j, R, rfl, rfl⟩ := h
  obtain ⟨cK, cN, cR, cT, cW, ⟨gK, gN, gR, gT, gW⟩, k0, k1, k2, k3, k4⟩ := R.ex
  obtain ⟨q1, q2, q3, q4⟩ := kinds_ok j R.lt
  show JB _ _ _ ⟨[.d (.exc c), .u], []⟩ _
  refine jb_cons (js_if (jt_cmp C (je_var 0) je_non (by walk_at "c")) (fun hb => ?_) (fun hb => ?_))
  · cases hb
  refine jb_nil ?_
  refine jb_cons (js_set 1 C (je_f (jf_lst (jd_cons (je_isinst T.isinstance (je_var 0) (pe_glob (v := .ref cK) rfl gK rfl) (.own _) (.exc R.E k0)) (jd_cons (je_isinst T.isinstance (je_var 0) (pe_glob (v := .ref cN) rfl gN rfl) (.own _) (.exc R.E k1)) (jd_cons (je_isinst T.isinstance (je_var 0) (pe_glob (v := .ref cR) rfl gR rfl) (.own _) (.exc R.E k2)) jd_nil))))) ?_)
  refine jb_cons (js_set 1 C (je_as (je_f (jf_cat (je_var 1) (je_f (jf_lst (jd_cons (je_isinst T.isinstance (je_var 0) (pe_glob (v := .ref cT) rfl gT rfl) (.own _) (.exc R.E k3)) (jd_cons (je_isinst T.isinstance (je_var 0) (pe_glob (v := .ref cW) rfl gW rfl) (.own _) (.exc R.E k4)) jd_nil)))) (by exact Nat.le_of_ble_eq_true rfl))) (show _ = D.lst ((kinds5 j).map .bl) from rfl)) ?_)
  refine jb_cons (js_if (jt_w (jw_or (jt_cmp C (je_countB (je_var 1) je_bl) je_int (by walk_at "c")) (jw_or1 (jt_not (jt_val (je_isinst T.isinstance (je_var 0) (pe_bltn (v := .ty "ValueError") rfl T.VE (by decide +kernel) rfl) (.ty _) (.exc R.E R.v))))))) (fun hb => ?_) (fun hb => ?_))
  · rw [q1] at hb
    cases hb
  refine jb_nil ?_
  refine jb_cons (js_ret (je_ix (je_f (jf_lst (jd_cons je_str (jd_cons je_str (jd_cons je_str (jd_cons je_str (jd_cons je_str jd_nil))))))) (je_index (n := 0) (j := j) (z := .bl true) C (je_var 1) je_bl (by decide) (fun x hx => by obtain ⟨b, _, rfl⟩ := List.mem_map.mp hx; exact True.intro) True.intro (by rw [List.getElem?_map, q2]; rfl) rfl (fun m z' hm hz => by rw [List.getElem?_map] at hz; cases e : (kinds5 j)[m]? with | none => rw [e] at hz; cases hz | some b => rw [e] at hz; cases hz; rw [q3 m b hm e]; rfl)) (ix_disp (ds := [D.str "kind", .str "net", .str "row", .str "text", .str "not"]) R.lt)) ?_)
  show Res.ok _ = Res.ok _
  rw [q4]
end
end Wk

namespace Wk
open PySem PySem.Spec PyProof.Rows L2 DL Sm
section
variable {Pg : Program} {w : World} {K : PySem.W.Frag} {mg : Str → Option Value} {base : Heap}
abbrev sWhole : Stmt := topS 26
theorem scWhole : FnScope ["_law_found"] ["_law_found"] (defScope sWhole) := ⟨rfl, rfl, rfl, by decide +kernel, rfl, by decide +kernel, by decide +kernel⟩
def preWhole : List D → Res → Prop := fun ds r => ∃ i : Int, ds = [.int i] ∧ r = .ok (.bl true)
theorem fn_whole {f : Addr} {fd : FuncData} (F : Fun K "_law_whole" "_law_whole" sWhole f fd) (hb : Binds K fd ["_law_found"] []) (hm : mg "_law_whole" = some (.ref f)) (T : Bt mg) : Fn Pg w K mg base "_law_whole" 1 1 preWhole := by
  refine fn_ok (ps := ["_law_found"]) F scWhole hb hm (fun ds r ⟨i, h, _⟩ => by rw [h]; rfl) (by decide) fun cdv A outer s H E C ds r h => ?_
  obtain ⟨i, rfl, rfl⟩ := h
  show JB _ _ _ ⟨[.d (.int i)], []⟩ _
  exact jb_cons (js_ret (je_and (je_isinst T.isinstance (je_var 0) (pe_bltn (v := .ty "int") rfl T.int (by decide +kernel) rfl) (.ty _) (.int (b := true) (kit_ty (by decide +kernel)))) (fun _ => je_one (je_not (je_isinst T.isinstance (je_var 0) (pe_bltn (v := .ty "bool") rfl T.bool (by decide +kernel) rfl) (.ty _) (.int (b := false) (kit_ty (by decide +kernel)))))) (fun z => nomatch z)) rfl)
end
end Wk

namespace Wk
open PySem PySem.Spec PyProof.Rows L2 DL Sm
section
variable {Pg : Program} {w : World} {K : PySem.W.Frag} {mg : Str → Option Value} {base : Heap}
abbrev sNet : Stmt := topS 27
theorem scNet : FnScope ["_law_script", "_law_k", "_law_most", "_law_wide", "_law_steps", "_law_j", "_law_number", "_law_other", "_law_one", "_law_outs"] ["_law_script", "_law_k", "_law_most"] (defScope sNet) := ⟨rfl, rfl, rfl, by decide +kernel, rfl, by decide +kernel, by decide +kernel⟩
def preNet : List D → Res → Prop := fun ds r => ∃ (ns : List Int) (k most : Nat), ds = [.scr ns, .int k, .int most] ∧ 1 ≤ most ∧ most ≤ 64 ∧ r = .ok (netN ns k most).e
theorem fn_net {f : Addr} {fd : FuncData} (F : Fun K "_law_net" "_law_net" sNet f fd) (hb : Binds K fd ["_law_script", "_law_k", "_law_most"] []) (hm : mg "_law_net" = some (.ref f)) (T : Bt mg) (F_law_mix : Fn Pg w K mg base "_law_mix" 2 2 preMix) : Fn Pg w K mg base "_law_net" 3 3 preNet := by
  refine fn_ok (ps := ["_law_script", "_law_k", "_law_most"]) F scNet hb hm (fun ds r ⟨ns, k, m, h, _⟩ => by rw [h]; rfl) (by decide) fun cdv A outer s H E C ds r h => ?_
  obtain ⟨ns, k, most, rfl, m1, m2, rfl⟩ := h
  obtain ⟨w1, w2⟩ := wideN_le (ns := ns) (k := k) m1
  show JB _ _ _ ⟨[.d (.scr ns), .d (.int k), .d (.int most), .u, .u, .u, .u, .u, .u, .u], []⟩ _
  refine jb_cons (js_set 3 C (je_as (je_bin je_int (je_bin (je_call C F_law_mix (by decide) (jd_cons (je_var 0) (jd_cons (je_var 1) jd_nil)) ⟨ns, k, rfl, rfl⟩) (je_var 2) (by walk_at "b")) (by walk_at "b")) (show D.int _ = .int (wideN ns k most : Nat) from rfl)) ?_)
  refine jb_cons (js_new 4 C (jf_lst jd_nil) ?_)
  have q9 := Nat.mod_lt (mixN ns (k + 1)) (show 9 > 0 by decide)
  refine jb_cons (js_fold (List.range (mixN ns (k + 1) % 9)) (fun b j => b ++ [stepN ns k (wideN ns k most) j]) [] (fun b => ⟨[.d (.scr ns), .d (.int k), .d (.int most), .d (.int (wideN ns k most : Nat)), .c 0, .u, .u, .u, .u, .u], [.lst (b.map eP)]⟩) (fun i b => b.length = i) C (ji_range1 T.range (n := mixN ns (k + 1) % 9) (je_bin (je_call C F_law_mix (by decide) (jd_cons (je_var 0) (jd_cons (je_bin (je_var 1) je_int (by walk_at "b")) jd_nil)) ⟨ns, k + 1, rfl, rfl⟩) je_int (by walk_at "b")) (by omega)) rfl ?_ ?_)
  · intro i j b ha _ hQ
    obtain ⟨hj, hj2⟩ := List.getElem?_eq_some_iff.mp ha
    rw [List.length_range] at hj
    rw [List.getElem_range] at hj2
    subst hj2
    refine jg_name 5 C.nd ?_
    refine jb_cons (js_set 6 C (je_as (je_call C F_law_mix (by decide) (jd_cons (je_var 0) (jd_cons (je_bin (je_bin (je_var 1) je_int (by walk_at "b")) (je_var 5) (by walk_at "b")) jd_nil)) ⟨ns, k + 2 + i, rfl, rfl⟩) (show D.int _ = .int (mixN ns (k + 2 + i) : Nat) from rfl)) ?_)
    refine jb_cons (js_set 7 C (je_as (je_bin (je_bin (je_var 6) je_int (by walk_at "b")) (je_bin (je_var 3) (je_var 5) (by walk_at "b")) (.modI (by omega))) (show D.int _ = .int (mixN ns (k + 2 + i) / 64 % (wideN ns k most + i) : Nat) from rfl)) ?_)
    have q4 : mixN ns (k + 2 + i) / 4096 % 4 < 4 := Nat.mod_lt _ (by decide)
    have hx : IxD (.lst [.int ((mixN ns (k + 2 + i) / 64 % (wideN ns k most + i) - 1 : Nat) : Int), .int ((mixN ns (k + 2 + i) % (wideN ns k most + i) : Nat) : Int), .int ((mixN ns (k + 2 + i) / 64 % (wideN ns k most + i) : Nat) : Int), .int ((wideN ns k most + i - 1 : Nat) : Int)]) (.int ((mixN ns (k + 2 + i) / 4096 % 4 : Nat) : Int)) (eN (stepN ns k (wideN ns k most) i).1) :=
      ix_lst eN (l := [mixN ns (k + 2 + i) / 64 % (wideN ns k most + i) - 1, mixN ns (k + 2 + i) % (wideN ns k most + i), mixN ns (k + 2 + i) / 64 % (wideN ns k most + i), wideN ns k most + i - 1]) 0 q4
    refine jb_cons (js_set 8 C (je_ix (je_f (jf_lst (jd_cons (je_as (je_max2 C T.max je_int (je_bin (je_var 7) je_int (by walk_at "b"))) ?e1) (jd_cons (je_as (je_bin (je_var 6) (je_bin (je_var 3) (je_var 5) (by walk_at "b")) (.modI (by omega))) ?e2) (jd_cons (je_var 7) (jd_cons (je_as (je_bin (je_bin (je_var 3) (je_var 5) (by walk_at "b")) je_int (by walk_at "b")) ?e3) jd_nil)))))) (je_as (je_bin (je_bin (je_var 6) je_int (by walk_at "b")) je_int (by walk_at "b")) ?e4) hx) ?_)
    case e1 => congr 1; omega
    case e2 => rfl
    case e3 => congr 1; omega
    case e4 => rfl
    refine jb_cons (js_app 4 0 (je_tup (jd_cons (je_var 8) (jd_cons (je_var 7) jd_nil))) ?_ ?_)
    · rw [List.length_map, sizeLine_eq]; omega
    refine jb_fin (t := ⟨[.d (.scr ns), .d (.int k), .d (.int most), .d (.int (wideN ns k most : Nat)), .c 0, .u, .u, .u, .u, .u], [.lst ((b ++ [stepN ns k (wideN ns k most) i]).map eP)]⟩) ⟨rfl, ?_⟩ ?_
    · rw [List.length_append, hQ]; rfl
    · rw [List.map_append]; rfl
  · intro _
    have e : (List.range (mixN ns (k + 1) % 9)).foldl (fun b j => b ++ [stepN ns k (wideN ns k most) j]) [] = stepsN ns k most := by
      rw [foldl_snoc]; rfl
    rw [e]
    refine jb_freeze 4 0 ?_
    have hl : (List.range (wideN ns k most)).length ≤ sizeLine := by rw [List.length_range, sizeLine_eq]; omega
    have hl2 := stepsN_len ns k most
    refine jb_cons (js_setLc 9 C (lc_as (lc_map (f := fun j : Nat => eN (mixN ns (k + 12 + j) % (wideN ns k most + (stepsN ns k most).length))) 5 (List.range (wideN ns k most)) C (ji_range1 T.range (je_var 3) (by omega)) (fun j _ _ _ _ _ _ C => je_as (je_bin (je_call C F_law_mix (by decide) (jd_cons (je_var 0) (jd_cons (je_bin (je_bin (je_var 1) je_int (by walk_at "b")) (je_var 5) (by walk_at "b")) jd_nil)) ⟨ns, k + 12 + j, rfl, rfl⟩) (je_bin (je_var 3) (je_len T.len (je_var 4) (by walk_at "len")) (by walk_at "b")) (.modI (by omega))) (by rw [List.length_map]; rfl))) (show _ = (outsN ns k most).map eN by rw [outsN, List.map_map]; rfl)) ?_)
    exact jb_cons (js_ret (je_tup (jd_cons (je_var 3) (jd_cons (je_var 4) (jd_cons (je_var 9) jd_nil)))) rfl)
end
end Wk

namespace Wk
open PySem PySem.Spec PyProof.Rows L2 DL Sm
section
variable {Pg : Program} {w : World} {K : PySem.W.Frag} {mg : Str → Option Value} {base : Heap}
abbrev sDepths : Stmt := topS 11
theorem scDepths : FnScope ["net", "found", "one", "other"] ["net"] (defScope sDepths) := ⟨rfl, rfl, rfl, by decide +kernel, rfl, by decide +kernel, by decide +kernel⟩
theorem fn_depths {f : Addr} {fd : FuncData} (F : Fun K "depths" "depths" sDepths f fd) (hb : Binds K fd ["net"] []) (hm : mg "depths" = some (.ref f)) (T : Bt mg) {cN : Addr} (Flook_net : Fn Pg w K mg base "look_net" 1 1 (pre3 cN)) :
    Fn Pg w K mg base "depths" 1 2 (preN cN fun n => .lst (n.dep.map eN)) := by
  refine fn_ok (ps := ["net"]) F scDepths hb hm preN_len (by decide) fun cdv A outer s H E C ds r h => ?_
  rcases h with ⟨n, hg, rfl, rfl⟩ | ⟨n, hf, hk, rfl, rfl⟩
  · show JB _ _ _ ⟨[.d n.e, .u, .u, .u], []⟩ _
    refine jb_cons (js_expr (je_call C Flook_net (by decide) (jd_cons (je_var 0) jd_nil) (preLook_to (.inl ⟨n, hg, rfl, rfl⟩))) ?_)
    have g1 := hg.w1; have g2 := hg.w2; have g3 := hg.ls
    refine jb_cons (js_new 1 C (jf_rep1 eN 0 n.wide (je_f (jf_lst (jd_cons je_int jd_nil))) (je_ix (je_var 0) je_int (by walk_at "i")) (by omega)) ?_)
    refine jb_cons (js_fold n.steps depF (List.replicate n.wide 0) (fun b => ⟨[.d n.e, .c 0, .u, .u], [.lst (b.map eN)]⟩) (fun i b => b.length = n.wide + i) C (ji_list (je_ix (je_var 0) je_int (by walk_at "i"))) (by rw [List.length_replicate]; rfl) ?_ ?_)
    · intro i a b ha _ hQ
      have h1 := hg.st i a ha
      have hi := (List.getElem?_eq_some_iff.mp ha).1
      have x1 : IxD (.lst (b.map eN)) (.int (a.1 : Nat)) (eN (b.getD a.1 0)) := ix_lst eN 0 (by omega)
      have x2 : IxD (.lst (b.map eN)) (.int (a.2 : Nat)) (eN (b.getD a.2 0)) := ix_lst eN 0 (by omega)
      refine jg_n2 2 3 C ?_
      refine jb_cons (js_app 1 0 (je_view (je_bin je_int (je_max2 C T.max (je_ix (je_var 1) (je_var 2) (by walk_at "i")) (je_ix (je_var 1) (je_var 3) (by walk_at "i"))) (by walk_at "b"))) ?_ ?_)
      · rw [List.length_map, sizeLine_eq]; omega
      refine jb_fin (t := ⟨[.d n.e, .c 0, .u, .u], [.lst ((depF b a).map eN)]⟩) ⟨rfl, ?_⟩ ?_
      · rw [depF, List.length_append, hQ]; rfl
      · unfold depF
        rw [List.map_append]
        exact congrArg (fun z => [Cl.lst (b.map eN ++ [D.int z])]) (show (1 : Int) + max ((b.getD a.1 0 : Nat) : Int) ((b.getD a.2 0 : Nat) : Int) = ((1 + max (b.getD a.1 0) (b.getD a.2 0) : Nat) : Int) by omega)
    · intro _
      refine jb_freeze 1 0 ?_
      exact jb_cons (js_ret (je_var 1) rfl)
  · show JB _ _ _ ⟨[.d n.e, .u, .u, .u], []⟩ _
    exact jb_cons (js_exprE (je_callE C Flook_net (by decide) (jd_cons (je_var 0) jd_nil) (preLook_to (.inr ⟨n, hf, hk, rfl, rfl⟩))) rfl)
end
end Wk

namespace Sm
open PySem L2 DL
theorem filt_succ (g : Nat → Bool) (i : Nat) : (List.range (i + 1)).filter g = if g i = true then (List.range i).filter g ++ [i] else (List.range i).filter g := by
  rw [List.range_succ, List.filter_append, List.filter_cons]
  split <;> simp
section
variable {n : Nt} {W : Nat} {L : List Nat}
/-- the program's marks: what is done -/
def doneD (n : Nt) (L : List Nat) : List Bool := List.replicate n.wide true ++ (List.range n.steps.length).map fun k => !decide (k ∈ L)
theorem doneD_len (L : List Nat) : (doneD n L).length = n.wide + n.steps.length := by rw [doneD, List.length_append, List.length_replicate, List.length_map, List.length_range]
theorem doneD_step {k : Nat} (hk : k < n.steps.length) : (doneD n L).getD (n.wide + k) false = !decide (k ∈ L) := by
  rw [doneD, List.getD_eq_getElem?_getD, List.getElem?_append_right (by rw [List.length_replicate]; omega), List.length_replicate, Nat.add_sub_cancel_left, ← List.getD_eq_getElem?_getD, getD_mapR _ _ hk]
theorem doneD_node {x : Nat} (hx : x < n.wide + n.steps.length) : (doneD n L).getD x false = !waits n L x := by
  by_cases h : x < n.wide
  · rw [doneD, List.getD_eq_getElem?_getD, List.getElem?_append_left (by rw [List.length_replicate]; exact h), List.getElem?_replicate, if_pos h, waits, decide_eq_false (fun z => by omega)]
    rfl
  · have e : x = n.wide + (x - n.wide) := by omega
    rw [e, doneD_step (by omega), waits]
    congr 1
    rw [decide_eq_decide]
    constructor
    · intro z; exact ⟨by omega, by rw [Nat.add_sub_cancel_left]; exact z⟩
    · intro z; have := z.2; rwa [Nat.add_sub_cancel_left] at this
theorem doneD_all (h : Sub n.steps.length L) : (doneD n L).all id = L.isEmpty := by
  cases L with
  | nil =>
    show _ = true
    rw [List.all_eq_true]
    intro b hb
    rcases List.mem_append.mp hb with z | z
    · rw [List.eq_of_mem_replicate z]; rfl
    · obtain ⟨k, _, rfl⟩ := List.mem_map.mp z
      rfl
  | cons x r =>
    show _ = false
    rw [List.all_eq_false]
    have hx := h.lt (List.mem_cons_self (a := x))
    refine ⟨_, getD_mem false (show n.wide + x < (doneD n (x :: r)).length by rw [doneD_len]; omega), ?_⟩
    rw [doneD_step hx, decide_eq_true List.mem_cons_self]
    exact Bool.false_ne_true
theorem doneD_set {k : Nat} (hk : k < n.steps.length) : (doneD n L).set (n.wide + k) true = doneD n (L.filter fun x => decide (x ≠ k)) := by
  refine ext_getD2 false (by rw [List.length_set, doneD_len, doneD_len]) fun x hx => ?_
  rw [List.length_set, doneD_len] at hx
  by_cases e : n.wide + k = x
  · subst e
    rw [getD_set_eq _ _ (by rw [doneD_len]; omega), doneD_step hk, decide_eq_false (fun z => by have := of_decide_eq_true (List.mem_filter.mp z).2; exact this rfl)]
    rfl
  · rw [getD_set_ne _ _ e, doneD_node hx, doneD_node hx]
    congr 1
    unfold waits
    rw [decide_eq_decide]
    constructor
    · rintro ⟨z1, z2⟩
      exact ⟨z1, List.mem_filter.mpr ⟨z2, decide_eq_true (by omega)⟩⟩
    · rintro ⟨z1, z2⟩
      exact ⟨z1, (List.mem_filter.mp z2).1⟩
theorem filt_fold : ∀ (ks L : List Nat), ks.foldl (fun l k => l.filter fun x => decide (x ≠ k)) L = L.filter fun x => decide (x ∉ ks)
  | [], L => (List.filter_eq_self.mpr fun x _ => decide_eq_true (fun z => nomatch z)).symm
  | k :: ks, L => by
    rw [List.foldl_cons, filt_fold ks, List.filter_filter]
    refine List.filter_congr fun x _ => ?_
    rw [← Bool.decide_and, decide_eq_decide, List.mem_cons, not_or]
    exact And.comm
/-- what the program finds ready among the first i steps -/
def rdI (n : Nt) (L : List Nat) (i : Nat) : List Nat := (List.range i).filter fun k => decide (k ∈ L) && rdy n L k
theorem rdI_succ (L : List Nat) (i : Nat) : rdI n L (i + 1) = if (decide (i ∈ L) && rdy n L i) = true then rdI n L i ++ [i] else rdI n L i := filt_succ _ i
theorem rdI_all (h : Sub n.steps.length L) : rdI n L n.steps.length = rdyL n L := by
  unfold rdyL
  conv => rhs; rw [h]
  rw [List.filter_filter]
  refine List.filter_congr fun k hk => ?_
  rw [Bool.and_comm]
  congr 1
  rw [← h]
def pairR (far : Nat → Nat) (k : Nat) : Int × Int := (-((far k : Nat) : Int), (k : Nat))
theorem sel_lex {far : Nat → Nat} (j : Nat) {R : List Nat} (hs : R.Pairwise (· < ·)) : ((sel far j R).map (pairR far)).Pairwise lexLe := by
  rw [List.pairwise_map]
  refine (sel_pw (far := far) j R hs).imp fun {a b} h => ?_
  show ¬ (-((far b : Nat) : Int) < -((far a : Nat) : Int) ∨ (-((far b : Nat) : Int) = -((far a : Nat) : Int) ∧ (b : Int) < (a : Int)))
  unfold ahd at h
  omega
theorem pw_int {l : List Nat} (h : l.Pairwise (· < ·)) : (l.map fun a : Nat => (a : Int)).Pairwise (· ≤ ·) := by
  rw [List.pairwise_map]
  exact h.imp fun {a b} z => by omega
theorem chosen_take (n : Nt) (W : Nat) (L : List Nat) (h : Sub n.steps.length L) : (sel n.far (rdyL n L).length (rdyL n L)).take W = chosen n W L := by
  rw [sel_take]
  unfold chosen
  by_cases e : W ≤ (rdyL n L).length
  · rw [Nat.min_eq_left e]
  · rw [Nat.min_eq_right (by omega)]
    have h1 := sel_take (far := n.far) (rdyL n L).length W (rdyL n L)
    have h2 := sel_len (far := n.far) W (rdy_sub h).pw
    rw [Nat.min_eq_left (by omega)] at h1
    rw [← h1, List.take_of_length_le (by omega)]
end
end Sm

namespace Wk
open PySem PySem.Spec PyProof.Rows L2 DL Sm
section
variable {Pg : Program} {w : World} {K : PySem.W.Frag} {mg : Str → Option Value} {base : Heap}
abbrev sTails : Stmt := topS 13
theorem scTails : FnScope ["net", "found", "k", "one"] ["net"] (defScope sTails) := ⟨rfl, rfl, rfl, by decide +kernel, rfl, by decide +kernel, by decide +kernel⟩
theorem fn_tails {f : Addr} {fd : FuncData} (F : Fun K "tails" "tails" sTails f fd) (hb : Binds K fd ["net"] []) (hm : mg "tails" = some (.ref f)) (T : Bt mg) : Fn Pg w K mg base "tails" 1 1 (preG fun n => .lst (n.tails.map eN)) := by
  refine fn_ok (ps := ["net"]) F scTails hb hm (fun ds r ⟨n, _, h, _⟩ => by rw [h]; rfl) (by decide) fun cdv A outer s H E C ds r h => ?_
  obtain ⟨n, hg, rfl, rfl⟩ := h
  show JB _ _ _ ⟨[.d n.e, .u, .u, .u], []⟩ _
  have g1 := hg.w1; have g2 := hg.w2; have g3 := hg.ls
  refine jb_cons (js_new 1 C (jf_as (jf_rep1 eN 0 (n.wide + n.steps.length) (je_f (jf_lst (jd_cons je_int jd_nil))) (je_as (je_bin (je_ix (je_var 0) je_int (by walk_at "i")) (je_len T.len (je_ix (je_var 0) je_int (by walk_at "i")) (by walk_at "len")) (by walk_at "b")) (by rw [List.length_map]; rfl)) (by omega)) (show _ = (n.tailAt 0).map eN from rfl)) ?_)
  refine jb_cons (js_fold (List.range n.steps.length) (fun b _ => b + 1) 0 (fun b => ⟨[.d n.e, .c 0, .u, .u], [.lst ((n.tailAt b).map eN)]⟩) (fun i b => b = i) C (ji_rev T.reversed T.range (je_as (je_len T.len (je_ix (je_var 0) je_int (by walk_at "i")) (by walk_at "len")) (by rw [List.length_map])) (by omega)) rfl ?_ ?_)
  · rintro i k b hp _ rfl
    obtain ⟨hi, hk⟩ := List.getElem?_eq_some_iff.mp hp
    rw [List.length_range] at hi
    rw [List.getElem_range] at hk
    subst hk
    obtain ⟨k, ek⟩ : ∃ k, k = n.steps.length - 1 - b := ⟨_, rfl⟩
    have hk : k < n.steps.length := by omega
    obtain ⟨p1, p2⟩ := steps_at hg hk
    rw [← ek]
    refine jg_name 2 C.nd ?_
    have xp : IxD (.lst (n.steps.map eP)) (.int (k : Nat)) (eP (n.steps.getD k (0, 0))) := ix_lst eP (0, 0) hk
    refine jb_cons (js_fold [(n.steps.getD k (0, 0)).1, (n.steps.getD k (0, 0)).2] (tlI n.wide k) (n.tailAt b) (fun t => ⟨[.d n.e, .c 0, .d (.int (k : Nat)), .u], [.lst (t.map eN)]⟩) (fun i t => t.length = n.wide + n.steps.length) (enc := eN) C (ji_tup (je_ix (je_ix (je_var 0) je_int (by walk_at "i")) (je_var 2) xp)) (tailAt_len n b) ?_ ?_)
    · intro i o t ho _ hQ
      have ho2 : o < n.wide + n.steps.length := by
        rcases List.mem_cons.mp (List.mem_of_getElem? ho) with e | z
        · omega
        · have e := List.mem_singleton.mp z
          omega
      have x1 : IxD (.lst (t.map eN)) (.int (o : Nat)) (eN (t.getD o 0)) := ix_lst eN 0 (by omega)
      have x2 : IxD (.lst (t.map eN)) (.int ((n.wide + k : Nat) : Int)) (eN (t.getD (n.wide + k) 0)) := ix_lst eN 0 (by omega)
      refine jg_name 3 C.nd ?_
      refine jb_cons (js_setN 1 0 (m := o) (xs := t.map eN) (je_as (je_view (je_max2 C T.max (je_ix (je_var 1) (je_var 3) x1) (je_bin (je_ix (je_var 1) (je_as (je_bin (je_ix (je_var 0) je_int (by walk_at "i")) (je_var 2) (by walk_at "b")) (show _ = D.int ((n.wide + k : Nat) : Int) from rfl)) x2) je_int (by walk_at "b")))) (show _ = eN (max (t.getD o 0) (t.getD (n.wide + k) 0 + 1)) by unfold eN; congr 1; omega)) (je_var 3) (by rw [List.length_map]; omega) ?_)
      refine jb_fin (t := ⟨[.d n.e, .c 0, .d (.int (k : Nat)), .u], [.lst ((tlI n.wide k t o).map eN)]⟩) ⟨rfl, ?_⟩ ?_
      · rw [tlI_len, hQ]
      · rw [tlI, ← set_map eN t o _ _ rfl]
    · intro hQ
      refine jb_fin (t := ⟨[.d n.e, .c 0, .u, .u], [.lst ((n.tailAt (b + 1)).map eN)]⟩) ⟨rfl, rfl⟩ ?_
      show [Cl.lst _] = [Cl.lst _]
      rw [Nt.tailAt, ← ek]
      rfl
  · intro hQ
    refine jb_freeze 1 0 ?_
    refine jb_cons (js_ret (je_var 1) ?_)
    rw [hQ, List.length_range]
    rfl
end
end Wk

namespace Wk
open PySem PySem.Spec PyProof.Rows L2 DL Sm
section
variable {Pg : Program} {w : World} {K : PySem.W.Frag} {mg : Str → Option Value} {base : Heap}
abbrev sBehind : Stmt := topS 32
theorem scBehind : FnScope ["_law_net_here", "_law_node", "_law_some", "_law_k"] ["_law_net_here", "_law_node"] (defScope sBehind) := ⟨rfl, rfl, rfl, by decide +kernel, rfl, by decide +kernel, by decide +kernel⟩
def preBehind (m : Nat) : List D → Res → Prop := fun ds r => ∃ (n : Nt) (x : Nat), n.good ∧ x < n.wide + n.steps.length ∧ n.wide + n.steps.length - x ≤ m ∧ ds = [n.e, .int (x : Nat)] ∧ r = .ok (eN (n.tails.getD x 0))
/-- what is told of a node while its steps are looked at -/
def behL (n : Nt) (x i : Nat) : List Nat := 0 :: ((List.range i).filter fun k => decide (uses n k x)).map fun k => 1 + n.tails.getD (n.wide + k) 0
theorem behL_succ (n : Nt) (x i : Nat) : behL n x (i + 1) = if uses n i x then behL n x i ++ [1 + n.tails.getD (n.wide + i) 0] else behL n x i := by
  unfold behL
  rw [List.range_succ, List.filter_append, List.map_append, List.filter_cons]
  by_cases h : uses n i x
  · rw [if_pos (decide_eq_true h), if_pos h]; rfl
  · rw [if_neg (by rw [decide_eq_false h]; exact Bool.false_ne_true), if_neg h]; simp
theorem behL_max {n : Nt} (hg : n.good) (x : Nat) : n.tails.getD x 0 ∈ behL n x n.steps.length ∧ ∀ y ∈ behL n x n.steps.length, y ≤ n.tails.getD x 0 := by
  have F := far_ok hg x
  constructor
  · rcases F.eq with h | ⟨k, _, h2, h3, h4⟩
    · rw [h]; exact List.mem_cons_self
    · exact List.mem_cons_of_mem _ (List.mem_map.mpr ⟨k, List.mem_filter.mpr ⟨List.mem_range.mpr h2, decide_eq_true h3⟩, by omega⟩)
  · intro y hy
    rcases List.mem_cons.mp hy with rfl | hy
    · exact Nat.zero_le _
    · obtain ⟨k, hk, rfl⟩ := List.mem_map.mp hy
      obtain ⟨h1, h2⟩ := List.mem_filter.mp hk
      have := F.ge k (Nat.zero_le _) (List.mem_range.mp h1) (of_decide_eq_true h2)
      omega
theorem fn_behind {f : Addr} {fd : FuncData} (F : Fun K "_law_behind" "_law_behind" sBehind f fd) (hb : Binds K fd ["_law_net_here", "_law_node"] []) (hm : mg "_law_behind" = some (.ref f)) (T : Bt mg) : ∀ m, Fn Pg w K mg base "_law_behind" 2 (1 + m) (preBehind m) := by
  intro m
  induction m with
  | zero =>
    refine fn_ok (ps := ["_law_net_here", "_law_node"]) F scBehind hb hm (fun ds r ⟨n, x, _, _, _, h, _⟩ => by rw [h]; rfl) (by decide) fun cdv A outer s H E C ds r h => ?_
    obtain ⟨n, x, _, h1, h2, _⟩ := h
    omega
  | succ m ih =>
    refine fn_ok (ps := ["_law_net_here", "_law_node"]) F scBehind hb hm (fun ds r ⟨n, x, _, _, _, h, _⟩ => by rw [h]; rfl) (by decide) fun cdv A outer s H E C ds r h => ?_
    obtain ⟨n, x, hg, hx, hxm, rfl, rfl⟩ := h
    show JB _ _ _ ⟨[.d n.e, .d (.int (x : Nat)), .u, .u], []⟩ _
    have g1 := hg.w1; have g2 := hg.w2; have g3 := hg.ls
    refine jb_cons (js_new 2 C (jf_as (jf_lst (jd_cons je_int jd_nil)) (show _ = (behL n x 0).map eN from rfl)) ?_)
    refine jb_cons (js_fold (List.range n.steps.length) (fun b _ => b + 1) 0 (fun b => ⟨[.d n.e, .d (.int (x : Nat)), .c 0, .u], [.lst ((behL n x b).map eN)]⟩) (fun i b => b = i) C (ji_range1 T.range (je_as (je_len T.len (je_ix (je_var 0) je_int (by walk_at "i")) (by walk_at "len")) (by rw [List.length_map])) (by omega)) rfl ?_ ?_)
    · rintro i k b hp _ rfl
      obtain ⟨hi, hk⟩ := List.getElem?_eq_some_iff.mp hp
      rw [List.length_range] at hi
      rw [List.getElem_range] at hk
      subst hk
      obtain ⟨p1, p2⟩ := steps_at hg hi
      refine jg_name 3 C.nd ?_
      have xp : IxD (.lst (n.steps.map eP)) (.int (b : Nat)) (.tup (([((n.steps.getD b (0, 0)).1 : Int), ((n.steps.getD b (0, 0)).2 : Int)] : List Int).map .int)) := ix_lst eP (0, 0) hi
      have bl : (behL n x b).length ≤ 1 + b := by
        unfold behL
        rw [List.length_cons, List.length_map]
        have := List.length_filter_le (fun k => decide (uses n k x)) (List.range b)
        rw [List.length_range] at this
        omega
      have inu : (([((n.steps.getD b (0, 0)).1 : Int), ((n.steps.getD b (0, 0)).2 : Int)] : List Int).any fun j => decide (j = (x : Int))) = decide (uses n b x) := by
        rw [List.any_cons, List.any_cons, List.any_nil, Bool.or_false, ← Bool.decide_or, decide_eq_decide, uses]
        omega
      refine jb_cons (js_if (jt_cmp C (je_var 1) (je_ix (je_ix (je_var 0) je_int (by walk_at "i")) (je_var 3) xp) .inTI) (fun hq => ?_) (fun hq => ?_))
      · rw [inu] at hq
        have hu := of_decide_eq_true hq
        have hlt : x < n.wide + b := by
          rcases hu with e | e <;> omega
        refine jb_cons (js_app 2 0 (je_as (je_bin je_int (je_call C ih (Nat.le_refl _) (jd_cons (je_var 0) (jd_cons (je_as (je_bin (je_ix (je_var 0) je_int (by walk_at "i")) (je_var 3) (by walk_at "b")) (show _ = D.int ((n.wide + b : Nat) : Int) from rfl)) jd_nil)) ⟨n, n.wide + b, hg, by omega, by omega, rfl, rfl⟩) .addI) (show _ = eN (1 + n.tails.getD (n.wide + b) 0) from rfl)) ?_ ?_)
        · rw [List.length_map, sizeLine_eq]; omega
        refine jb_nil (jb_fin (t := ⟨[.d n.e, .d (.int (x : Nat)), .c 0, .u], [.lst ((behL n x (b + 1)).map eN)]⟩) ⟨rfl, rfl⟩ ?_)
        rw [behL_succ, if_pos hu, List.map_append]
        rfl
      · rw [inu] at hq
        have hu := of_decide_eq_false hq
        refine jb_nil (jb_fin (t := ⟨[.d n.e, .d (.int (x : Nat)), .c 0, .u], [.lst ((behL n x (b + 1)).map eN)]⟩) ⟨rfl, rfl⟩ ?_)
        rw [behL_succ, if_neg hu]
    · intro hQ
      rw [hQ, List.length_range]
      refine jb_freeze 2 0 ?_
      obtain ⟨m1, m2⟩ := behL_max hg x
      refine jb_cons (js_ret (je_maxL (ns := (behL n x n.steps.length).map fun a : Nat => (a : Int)) C T.max (je_as (je_var 2) (show _ = D.lst (((behL n x n.steps.length).map fun a : Nat => (a : Int)).map .int) by rw [List.map_map]; rfl)) (List.mem_map.mpr ⟨_, m1, rfl⟩) (fun y hy => by
        obtain ⟨z, hz, rfl⟩ := List.mem_map.mp hy
        have := m2 z hz
        show (z : Int) ≤ ((n.tails.getD x 0 : Nat) : Int)
        omega)) rfl)
end
end Wk

namespace Wk
open PySem PySem.Spec PyProof.Rows L2 DL Sm
section
variable {Pg : Program} {w : World} {K : PySem.W.Frag} {mg : Str → Option Value} {base : Heap}
abbrev sFew : Stmt := topS 15
theorem scFew : FnScope ["net", "workers"] ["net", "workers"] (defScope sFew) := ⟨rfl, rfl, rfl, by decide +kernel, rfl, by decide +kernel, by decide +kernel⟩
/-- what is due of a net and workers -/
def dueR (r : Nat → Res) (ok : Nt → Nat → Res) (n : N3) (v : Int) (z : Res) : Prop := (¬ n.ok ∧ z = r 1) ∨ ∃ m : Nt, m.good ∧ m.n3 = n ∧ ((¬ (1 ≤ v ∧ v ≤ 64) ∧ z = r 0) ∨ ∃ W : Nat, 1 ≤ W ∧ W ≤ 64 ∧ v = (W : Int) ∧ z = ok m W)
def erR (cK cN : Addr) : Nat → Res := fun j => .er (if j = 1 then cN else cK)
def preRds (ok : Nt → Nat → D) (cK cN : Addr) : List D → Res → Prop := fun ds z => ∃ (n : N3) (v : Int), n.fit ∧ ds = [n.e, .int v] ∧ dueR (erR cK cN) (fun m W => .ok (ok m W)) n v z
theorem fn_few {f : Addr} {fd : FuncData} (F : Fun K "fewest_rounds" "fewest_rounds" sFew f fd) (hb : Binds K fd ["net", "workers"] []) (hm : mg "fewest_rounds" = some (.ref f)) (T : Bt mg) {cK cN : Addr} (xBadKind : ExcOf K mg "BadKind" cK) (Flook_net : Fn Pg w K mg base "look_net" 1 1 (pre3 cN)) (Fdepths : Fn Pg w K mg base "depths" 1 2 (preN cN fun n => .lst (n.dep.map eN))) : Fn Pg w K mg base "fewest_rounds" 2 3 (preRds (fun m W => eN (m.leastR W)) cK cN) := by
  refine fn_ok (ps := ["net", "workers"]) F scFew hb hm (fun ds r ⟨n, v, _, h, _⟩ => by rw [h]; rfl) (by decide) fun cdv A outer s H E C ds r h => ?_
  obtain ⟨n, v, hf, rfl, h⟩ := h
  show JB _ _ _ ⟨[.d n.e, .d (.int v)], []⟩ _
  rcases h with ⟨hok, rfl⟩ | ⟨m, hg, rfl, h⟩
  · exact jb_cons (js_exprE (je_callE C Flook_net (by decide) (jd_cons (je_var 0) jd_nil) ⟨n, hf, rfl, .inr ⟨hok, rfl⟩⟩) rfl)
  refine jb_cons (js_expr (je_call C Flook_net (by decide) (jd_cons (je_var 0) jd_nil) ⟨m.n3, hf, rfl, .inl ⟨hg.ok, rfl⟩⟩) ?_)
  rw [m.e_n3]
  rcases h with ⟨hv, rfl⟩ | ⟨W, hW, hW2, rfl, rfl⟩
  · refine jb_cons (js_if (jt_as (jt_not (jt_chain C je_int (je_var 1) .le je_int .le)) (show _ = true by
      cases e : decide ((1 : Int) ≤ v) && decide (v ≤ (64 : Int)) with
      | false => rfl
      | true => rw [Bool.and_eq_true] at e; exact absurd ⟨of_decide_eq_true e.1, of_decide_eq_true e.2⟩ hv)) (fun _ => ?_) (fun hq => Bool.noConfusion hq))
    exact jb_cons (js_raise C xBadKind rfl)
  refine jb_cons (js_if (jt_as (jt_not (jt_chain C je_int (je_var 1) .le je_int .le)) (show _ = false by
    rw [decide_eq_true (show (1 : Int) ≤ (W : Int) by omega), decide_eq_true (show (W : Int) ≤ (64 : Int) by omega)]; rfl)) (fun hq => Bool.noConfusion hq) (fun _ => ?_))
  refine jb_nil ?_
  have g1 := hg.w1
  have hne : m.dep ≠ [] := fun z => by have := m.dep_len; rw [z] at this; simp at this; omega
  refine jb_cons (js_ret (je_as (je_max2 C T.max (je_neg (je_bin (je_neg (je_len T.len (je_ix (je_var 0) je_int (by walk_at "i")) (by walk_at "len"))) (je_var 1) (.divI ⟨by omega, by omega⟩))) (je_maxL (ns := m.dep.map fun a : Nat => (a : Int)) C T.max (je_as (je_call C Fdepths (by decide) (jd_cons (je_var 0) jd_nil) (.inl ⟨m, hg, rfl, rfl⟩)) (show _ = D.lst ((m.dep.map fun a : Nat => (a : Int)).map .int) by rw [List.map_map]; rfl)) (List.mem_map.mpr ⟨_, maxN_mem hne, rfl⟩) (fun y hy => by
      obtain ⟨z, hz, rfl⟩ := List.mem_map.mp hy
      have := maxN_ge hz
      show (z : Int) ≤ ((maxN m.dep : Nat) : Int)
      omega))) (show _ = eN (m.leastR W) by
    rw [List.length_map]
    have e : -(-(m.steps.length : Int) / (W : Int)) = ((fewN m.steps.length W : Nat) : Int) := by
      unfold fewN
      have hW3 : (0 : Int) < W := by omega
      have h1 := Int.ediv_mul_le (-(m.steps.length : Int)) (show (W : Int) ≠ 0 by omega)
      have h2 := Int.lt_ediv_add_one_mul_self (-(m.steps.length : Int)) hW3
      have h3 := Nat.div_add_mod (m.steps.length + (W - 1)) W
      have h4 := Nat.mod_lt (m.steps.length + (W - 1)) (show W > 0 by omega)
      obtain ⟨q, eq⟩ : ∃ q : Int, q = -(m.steps.length : Int) / (W : Int) := ⟨_, rfl⟩
      obtain ⟨p, ep⟩ : ∃ p : Nat, p = (m.steps.length + (W - 1)) / W := ⟨_, rfl⟩
      rw [← eq] at h1 h2 ⊢
      rw [← ep] at h3 ⊢
      have b1 : (m.steps.length : Int) ≤ -q * W := by rw [Int.neg_mul]; omega
      have b2 : -q * W < m.steps.length + W := by rw [Int.add_mul] at h2; rw [Int.neg_mul]; omega
      have b3 : (p : Int) * W ≤ m.steps.length + (W - 1) := by
        have : p * W ≤ m.steps.length + (W - 1) := by rw [Nat.mul_comm]; omega
        have := Int.ofNat_le.mpr this
        push_cast at this
        omega
      have b4 : (m.steps.length : Int) ≤ p * W := by
        have : m.steps.length ≤ p * W := by rw [Nat.mul_comm]; omega
        have := Int.ofNat_le.mpr this
        push_cast at this
        exact this
      have c1 : -q < p + 1 := Int.lt_of_mul_lt_mul_right (a := (W : Int)) (by rw [Int.add_mul]; omega) (Int.le_of_lt hW3)
      have c2 : (p : Int) < -q + 1 := Int.lt_of_mul_lt_mul_right (a := (W : Int)) (by rw [Int.add_mul]; omega) (Int.le_of_lt hW3)
      omega
    rw [e]
    unfold eN Nt.leastR
    congr 1
    omega)) rfl)
end
end Wk

namespace Wk
open PySem PySem.Spec PyProof.Rows L2 DL Sm
section
variable {Pg : Program} {w : World} {K : PySem.W.Frag} {mg : Str → Option Value} {base : Heap}
abbrev sRounds : Stmt := topS 14
theorem scRounds : FnScope ["net", "workers", "some", "done", "found", "ready", "k", "one", "other", "far", "here"] ["net", "workers"] (defScope sRounds) := ⟨rfl, rfl, rfl, by decide +kernel, rfl, by decide +kernel, by decide +kernel⟩
def eR (l : List (List Nat)) : D := .lst (l.map eL)
theorem fn_rounds {f : Addr} {fd : FuncData} (F : Fun K "rounds" "rounds" sRounds f fd) (hb : Binds K fd ["net", "workers"] []) (hm : mg "rounds" = some (.ref f)) (T : Bt mg) {cK cN : Addr} (xBadKind : ExcOf K mg "BadKind" cK) (Flook_net : Fn Pg w K mg base "look_net" 1 1 (pre3 cN)) (Ftails : Fn Pg w K mg base "tails" 1 1 (preG fun n => .lst (n.tails.map eN))) : Fn Pg w K mg base "rounds" 2 2 (preRds (fun m W => eR (m.rounds W)) cK cN) := by
  refine fn_ok (ps := ["net", "workers"]) F scRounds hb hm (fun ds r ⟨n, v, _, h, _⟩ => by rw [h]; rfl) (by decide) fun cdv A outer s H E C ds r h => ?_
  obtain ⟨n, v, hf, rfl, h⟩ := h
  show JB _ _ _ ⟨[.d n.e, .d (.int v), .u, .u, .u, .u, .u, .u, .u, .u, .u], []⟩ _
  rcases h with ⟨hok, rfl⟩ | ⟨m, hg, rfl, h⟩
  · exact jb_cons (js_exprE (je_callE C Flook_net (by decide) (jd_cons (je_var 0) jd_nil) ⟨n, hf, rfl, .inr ⟨hok, rfl⟩⟩) rfl)
  refine jb_cons (js_expr (je_call C Flook_net (by decide) (jd_cons (je_var 0) jd_nil) ⟨m.n3, hf, rfl, .inl ⟨hg.ok, rfl⟩⟩) ?_)
  rw [m.e_n3]
  rcases h with ⟨hv, rfl⟩ | ⟨W, hW, hW2, rfl, rfl⟩
  · refine jb_cons (js_if (jt_as (jt_not (jt_chain C je_int (je_var 1) .le je_int .le)) (show _ = true by
      cases e : decide ((1 : Int) ≤ v) && decide (v ≤ (64 : Int)) with
      | false => rfl
      | true => rw [Bool.and_eq_true] at e; exact absurd ⟨of_decide_eq_true e.1, of_decide_eq_true e.2⟩ hv)) (fun _ => ?_) (fun hq => Bool.noConfusion hq))
    exact jb_cons (js_raise C xBadKind rfl)
  refine jb_cons (js_if (jt_as (jt_not (jt_chain C je_int (je_var 1) .le je_int .le)) (show _ = false by
    rw [decide_eq_true (show (1 : Int) ≤ (W : Int) by omega), decide_eq_true (show (W : Int) ≤ (64 : Int) by omega)]; rfl)) (fun hq => Bool.noConfusion hq) (fun _ => ?_))
  refine jb_nil ?_
  have g1 := hg.w1; have g2 := hg.w2; have g3 := hg.ls
  refine jb_cons (js_set 2 C (je_call C Ftails (by decide) (jd_cons (je_var 0) jd_nil) ⟨m, hg, rfl, rfl⟩) ?_)
  refine jb_cons (js_new 3 C (jf_as (jf_cat (je_f (jf_rep1 D.bl true m.wide (je_f (jf_lst (jd_cons je_bl jd_nil))) (je_ix (je_var 0) je_int (by walk_at "i")) (by omega))) (je_f (jf_rep1 D.bl false m.steps.length (je_f (jf_lst (jd_cons je_bl jd_nil))) (je_as (je_len T.len (je_ix (je_var 0) je_int (by walk_at "i")) (by walk_at "len")) (by rw [List.length_map])) (by omega))) ?l0) (show _ = (doneD m (List.range m.steps.length)).map .bl by
    rw [← List.map_append, doneD]
    congr 2
    rw [← List.length_range (n := m.steps.length), ← List.map_const', List.length_range]
    exact List.map_congr_left fun k hk => by rw [decide_eq_true hk]; rfl)) ?_)
  case l0 => rw [List.length_map, List.length_map, List.length_replicate, List.length_replicate, sizeLine_eq]; omega
  refine jb_cons (js_new 4 C (jf_as (jf_lst jd_nil) (show _ = ([] : List (List Nat)).map eL from rfl)) ?_)
  refine jb_cons (js_while (m0 := m.steps.length) (fun j s' => ∃ (L : List Nat) (Q : List (List Nat)) (f : Nat), Sub m.steps.length L ∧ L.length ≤ f ∧ j = L.length ∧ Q ++ roundsF m W f L = m.rounds W ∧ Q.length + L.length ≤ m.steps.length ∧ s' = ⟨[.d m.e, .d (.int (W : Nat)), .d (.lst (m.tails.map eN)), .c 0, .c 1, .u, .u, .u, .u, .u, .u], [.lst ((doneD m L).map .bl), .lst (Q.map eL)]⟩) C ⟨List.range m.steps.length, [], m.steps.length, Sub.range _, by rw [List.length_range]; exact Nat.le_refl _, by rw [List.length_range], rfl, by rw [List.length_range]; exact Nat.le_of_eq (Nat.zero_add _), rfl⟩ ?_)
  rintro j s' ⟨L, Q, f, hS, hLf, rfl, hQ, hQl, rfl⟩
  refine ⟨_, jt_not (jt_val (je_view (je_all (bs := doneD m L) C T.all (je_var 3)))), fun hq => ?_, fun hq => ?_⟩
  · rw [doneD_all hS] at hq
    cases L with
    | nil => cases hq
    | cons x t =>
      cases f with
      | zero => exact absurd hLf (by rw [List.length_cons]; omega)
      | succ f =>
        rw [roundsF] at hQ
        have hne : x :: t ≠ [] := fun z => nomatch z
        generalize x :: t = L at *
        have hlt := next_lt hg hW hS hne
        have hsp := split_len (W := W) hS
        have hLm := hS.len
        have hl : (List.range m.steps.length).length ≤ sizeLine := by rw [List.length_range, sizeLine_eq]; omega
        refine jb_drop ?_
        refine jb_cons (js_new 5 C (jf_as (jf_lst jd_nil) (show _ = ((rdI m L 0).map (pairR m.far)).map eI2 from rfl)) ?_)
        refine jb_cons (js_fold (List.range m.steps.length) (fun b _ => b + 1) 0 (fun b => ⟨[.d m.e, .d (.int (W : Nat)), .d (.lst (m.tails.map eN)), .c 0, .c 1, .c 2, .u, .u, .u, .u, .u], [.lst ((doneD m L).map .bl), .lst (Q.map eL), .lst (((rdI m L b).map (pairR m.far)).map eI2)]⟩) (fun i b => b = i) C (ji_range1 T.range (je_as (je_len T.len (je_ix (je_var 0) je_int (by walk_at "i")) (by walk_at "len")) (by rw [List.length_map])) (by omega)) rfl ?_ ?_)
        · rintro i k b hp _ rfl
          obtain ⟨hi, hk⟩ := List.getElem?_eq_some_iff.mp hp
          rw [List.length_range] at hi
          rw [List.getElem_range] at hk
          subst hk
          obtain ⟨p1, p2⟩ := steps_at hg hi
          refine jg_name 6 C.nd ?_
          have xp : IxD (.lst (m.steps.map eP)) (.int (b : Nat)) (.tup [.int ((m.steps.getD b (0, 0)).1 : Nat), .int ((m.steps.getD b (0, 0)).2 : Nat)]) := ix_lst eP (0, 0) hi
          have xd0 : IxD (.lst ((doneD m L).map .bl)) (.int ((m.wide + b : Nat) : Int)) (.bl (!decide (b ∈ L))) := by rw [← doneD_step hi]; exact ix_lst D.bl false (by rw [doneD_len]; omega)
          have xd1 : IxD (.lst ((doneD m L).map .bl)) (.int ((m.steps.getD b (0, 0)).1 : Nat)) (.bl (!waits m L (m.steps.getD b (0, 0)).1)) := by rw [← doneD_node (by omega)]; exact ix_lst D.bl false (by rw [doneD_len]; omega)
          have xd2 : IxD (.lst ((doneD m L).map .bl)) (.int ((m.steps.getD b (0, 0)).2 : Nat)) (.bl (!waits m L (m.steps.getD b (0, 0)).2)) := by rw [← doneD_node (by omega)]; exact ix_lst D.bl false (by rw [doneD_len]; omega)
          have xf : IxD (.lst (m.tails.map eN)) (.int ((m.wide + b : Nat) : Int)) (eN (m.far b)) := ix_lst eN 0 (by rw [tails_len]; omega)
          have rl : (rdI m L b).length ≤ b := by
            have := List.length_filter_le (fun k => decide (k ∈ L) && rdy m L k) (List.range b)
            rw [List.length_range] at this
            exact this
          refine jb_cons (js_asg (je_ix (je_ix (je_var 0) je_int (by walk_at "i")) (je_var 6) xp) (jg_n2 7 8 C ?_))
          refine jb_cons (js_if (jt_as (jt_view (jt_w (jw_and (jt_not (jt_val (je_ix (je_var 3) (je_as (je_bin (je_ix (je_var 0) je_int (by walk_at "i")) (je_var 6) .addI) (show _ = D.int ((m.wide + b : Nat) : Int) from rfl)) xd0))) (jw_and (jt_val (je_ix (je_var 3) (je_var 7) xd1)) (jw_and1 (jt_val (je_ix (je_var 3) (je_var 8) xd2))))))) (show _ = (decide (b ∈ L) && rdy m L b) by rw [rdy, Bool.not_or, Bool.not_not])) (fun hq => ?_) (fun hq => ?_))
          · refine jb_cons (js_app 5 2 (je_as (je_tup (jd_cons (je_neg (je_ix (je_var 2) (je_as (je_bin (je_ix (je_var 0) je_int (by walk_at "i")) (je_var 6) .addI) (show _ = D.int ((m.wide + b : Nat) : Int) from rfl)) xf)) (jd_cons (je_var 6) jd_nil))) (show _ = eI2 (pairR m.far b) from rfl)) ?_ ?_)
            · rw [List.length_map, List.length_map, sizeLine_eq]; omega
            refine jb_nil (jb_fin (t := ⟨[.d m.e, .d (.int (W : Nat)), .d (.lst (m.tails.map eN)), .c 0, .c 1, .c 2, .u, .u, .u, .u, .u], [.lst ((doneD m L).map .bl), .lst (Q.map eL), .lst (((rdI m L (b + 1)).map (pairR m.far)).map eI2)]⟩) ⟨rfl, rfl⟩ ?_)
            rw [rdI_succ, if_pos hq, List.map_append, List.map_append]
            rfl
          · refine jb_nil (jb_fin (t := ⟨[.d m.e, .d (.int (W : Nat)), .d (.lst (m.tails.map eN)), .c 0, .c 1, .c 2, .u, .u, .u, .u, .u], [.lst ((doneD m L).map .bl), .lst (Q.map eL), .lst (((rdI m L (b + 1)).map (pairR m.far)).map eI2)]⟩) ⟨rfl, rfl⟩ ?_)
            rw [rdI_succ, if_neg (by rw [hq]; exact Bool.false_ne_true)]
        · intro hz
          rw [hz, List.length_range, rdI_all hS]
          refine jb_freeze 5 2 ?_
          have hR := (rdy_sub (n := m) hS).pw
          have hcl : (chosen m W L).length ≤ sizeLine := by rw [sizeLine_eq]; omega
          refine jb_cons (js_setLc 10 C (lc_as (lc_map2 (d1 := fun k : Nat => D.int (-((m.far k : Nat) : Int))) (d2 := eN) (f := eN) 9 6 (chosen m W L) C (ji_list (je_as (je_f (jf_cut (je_f (jf_sortedP (ps := (rdyL m L).map (pairR m.far)) (qs := (sel m.far (rdyL m L).length (rdyL m L)).map (pairR m.far)) T.sorted (je_var 5) ((sel_perm _ _ hR (Nat.le_refl _)).map _) (sel_lex _ hR))) jo_none (jo_some (je_var 1)))) ?cu)) (fun a ha _ _ _ _ _ C => (je_var 6)) hcl) (show _ = (chosen m W L).map eN from rfl)) ?_)
          case cu =>
            rw [cut_take, ← List.map_take, ← List.map_take, chosen_take m W L hS, List.map_map]
            rfl
          refine jb_cons (js_fold (chosen m W L) (fun l k => l.filter fun x => decide (x ≠ k)) L (fun l => ⟨[.d m.e, .d (.int (W : Nat)), .d (.lst (m.tails.map eN)), .c 0, .c 1, .u, .u, .u, .u, .u, .d (eL (chosen m W L))], [.lst ((doneD m l).map .bl), .lst (Q.map eL), .dead]⟩) (fun _ _ => True) (enc := eN) C (ji_list (je_var 10)) True.intro ?_ ?_)
          · intro i k l hk2 _ _
            have hkm : k < m.steps.length := hS.lt (chosen_sub hS (List.mem_of_getElem? hk2)).1
            refine jg_name 6 C.nd ?_
            refine jb_cons (js_setN 3 0 (m := m.wide + k) (xs := (doneD m l).map .bl) je_bl (je_as (je_bin (je_ix (je_var 0) je_int (by walk_at "i")) (je_var 6) .addI) (show _ = D.int ((m.wide + k : Nat) : Int) from rfl)) (by rw [List.length_map, doneD_len]; omega) ?_)
            rw [set_map D.bl (doneD m l) _ true _ rfl, doneD_set hkm]
            exact jb_fin (t := ⟨[.d m.e, .d (.int (W : Nat)), .d (.lst (m.tails.map eN)), .c 0, .c 1, .u, .u, .u, .u, .u, .d (eL (chosen m W L))], [.lst ((doneD m (l.filter fun x => decide (x ≠ k))).map .bl), .lst (Q.map eL), .dead]⟩) ⟨rfl, True.intro⟩
          · intro _
            rw [filt_fold]
            have hp : ((here m W L).map fun a : Nat => (a : Int)).Perm ((chosen m W L).map fun a : Nat => (a : Int)) := (here_perm hS).map _
            refine jb_cons (js_app 4 1 (je_as (je_f (jf_sortedI (ns := (chosen m W L).map fun a : Nat => (a : Int)) (ms := (here m W L).map fun a : Nat => (a : Int)) T.sorted (je_as (je_var 10) (show _ = D.lst (((chosen m W L).map fun a : Nat => (a : Int)).map .int) by rw [List.map_map]; rfl)) hp (pw_int (Sub.pw Sub.of)))) (show _ = eL (here m W L) by rw [List.map_map]; rfl)) ?_ ?_)
            · rw [List.length_map, sizeLine_eq]; omega
            refine jb_finD ⟨[.d m.e, .d (.int (W : Nat)), .d (.lst (m.tails.map eN)), .c 0, .c 1, .u, .u, .u, .u, .u, .u], [.lst ((doneD m (next m W L)).map .bl), .lst ((Q ++ [here m W L]).map eL)]⟩ ⟨(next m W L).length, hlt, next m W L, Q ++ [here m W L], f, next_sub hS, by omega, rfl, by rw [List.append_assoc]; exact hQ, by rw [List.length_append]; show _ + 1 + _ ≤ _; omega, rfl⟩ ?_
            rw [List.map_append]
            rfl
  · rw [doneD_all hS] at hq
    have e : L = [] := by
      cases L with
      | nil => rfl
      | cons x t => cases hq
    subst e
    have e2 : roundsF m W f [] = [] := by cases f <;> rfl
    rw [e2, List.append_nil] at hQ
    rw [hQ]
    refine jb_freeze 4 1 ?_
    exact jb_cons (js_ret (je_var 4) rfl)
end
end Wk

namespace Wk
open PySem PySem.Spec PyProof.Rows L2 DL Sm
section
variable {Pg : Program} {w : World} {K : PySem.W.Frag} {mg : Str → Option Value} {base : Heap}
theorem inD_nat (i : Int) (L : List Nat) : inD (.int i) (L.map eN) = decide (∃ k ∈ L, (k : Int) = i) := by
  unfold inD
  induction L with
  | nil => exact (decide_eq_false fun ⟨k, h, _⟩ => nomatch h).symm
  | cons x r ih =>
    rw [List.map_cons, List.any_cons, ih, eN, eqv_int, ← Bool.decide_or, decide_eq_decide]
    constructor
    · rintro (h | ⟨k, h1, h2⟩)
      · exact ⟨x, List.mem_cons_self, h⟩
      · exact ⟨k, List.mem_cons_of_mem _ h1, h2⟩
    · rintro ⟨k, h1, h2⟩
      rcases List.mem_cons.mp h1 with rfl | h1
      · exact .inl h2
      · exact .inr ⟨k, h1, h2⟩
theorem inD_waits (n : Nt) (L : List Nat) (o : Nat) : inD (.int ((o : Int) - (n.wide : Int))) (L.map eN) = waits n L o := by
  rw [inD_nat, waits, decide_eq_decide]
  constructor
  · rintro ⟨k, h1, h2⟩
    have e : o - n.wide = k := by omega
    exact ⟨by omega, by rw [e]; exact h1⟩
  · rintro ⟨h1, h2⟩
    exact ⟨_, h2, by omega⟩
theorem erase_cast (b : Nat) : ∀ R : List Nat, (R.map fun a : Nat => (a : Int)).erase (b : Int) = (R.erase b).map fun a : Nat => (a : Int)
  | [] => rfl
  | x :: r => by
    rw [List.map_cons, List.erase_cons, List.erase_cons]
    by_cases h : x = b
    · rw [if_pos (by rw [h]; exact beq_self_eq_true _), if_pos (by rw [h]; exact beq_self_eq_true _)]
    · rw [if_neg (by rw [beq_iff_eq]; omega), if_neg (by rw [beq_iff_eq]; exact h), List.map_cons, erase_cast b r]
theorem eN_intsR (l : List Nat) : l.map eN = (l.map fun a : Nat => (a : Int)).map .int := by rw [List.map_map]; rfl
abbrev sLr : Stmt := topS 33
theorem scLr : FnScope ["_law_net_here", "_law_workers", "_law_k", "_law_far", "_law_left", "_law_found", "_law_one", "_law_ready", "_law_chosen", "_law_best"] ["_law_net_here", "_law_workers"] (defScope sLr) := ⟨rfl, rfl, rfl, by decide +kernel, rfl, by decide +kernel, by decide +kernel⟩
def preLr : List D → Res → Prop := fun ds r => ∃ (n : Nt) (W : Nat), n.good ∧ n.steps.length ≤ 20 ∧ 1 ≤ W ∧ W ≤ 64 ∧ ds = [n.e, .int (W : Nat)] ∧ r = .ok (eR (n.rounds W))
theorem fn_lr {f : Addr} {fd : FuncData} (F : Fun K "_law_rounds" "_law_rounds" sLr f fd) (hb : Binds K fd ["_law_net_here", "_law_workers"] []) (hm : mg "_law_rounds" = some (.ref f)) (T : Bt mg) (F_law_behind : ∀ m, Fn Pg w K mg base "_law_behind" 2 (1 + m) (preBehind m)) : Fn Pg w K mg base "_law_rounds" 2 22 preLr := by
  refine fn_ok (ps := ["_law_net_here", "_law_workers"]) F scLr hb hm (fun ds r ⟨n, W, _, _, _, _, h, _⟩ => by rw [h]; rfl) (by decide) fun cdv A outer s H E C ds r h => ?_
  obtain ⟨n, W, hg, h20, hW, hW2, rfl, rfl⟩ := h
  show JB _ _ _ ⟨[.d n.e, .d (.int (W : Nat)), .u, .u, .u, .u, .u, .u, .u, .u], []⟩ _
  have g1 := hg.w1; have g2 := hg.w2; have g3 := hg.ls
  have hl : (List.range n.steps.length).length ≤ sizeLine := by rw [List.length_range, sizeLine_eq]; omega
  have B20 := F_law_behind 20
  refine jb_cons (js_setLc 3 C (lc_as (lc_map (f := fun k : Nat => eN (n.far k)) 2 (List.range n.steps.length) C (ji_range1 T.range (je_as (je_len T.len (je_ix (je_var 0) je_int (by walk_at "i")) (by walk_at "len")) (by rw [List.length_map])) (by omega)) (fun k hk _ _ _ _ _ C => (je_call C B20 (by decide) (jd_cons (je_var 0) (jd_cons (je_as (je_bin (je_ix (je_var 0) je_int (by walk_at "i")) (je_var 2) .addI) (show _ = D.int ((n.wide + k : Nat) : Int) from rfl)) jd_nil)) ⟨n, n.wide + k, hg, by have := List.mem_range.mp hk; omega, by have := List.mem_range.mp hk; omega, rfl, rfl⟩)) hl) (show _ = ((List.range n.steps.length).map n.far).map eN by rw [List.map_map]; rfl)) ?_)
  obtain ⟨fs, efs⟩ : ∃ fs, fs = (List.range n.steps.length).map n.far := ⟨_, rfl⟩
  rw [← efs]
  have xf : ∀ k, k < n.steps.length → IxD (.lst (fs.map eN)) (.int (k : Nat)) (eN (n.far k)) := fun k hk => by
    have e : fs.getD k 0 = n.far k := by rw [efs, getD_mapR _ _ hk]
    rw [← e]
    exact ix_lst eN 0 (by rw [efs, List.length_map, List.length_range]; exact hk)
  refine jb_cons (js_set 4 C (je_as (je_f (jf_listR C T.list T.range (je_as (je_len T.len (je_ix (je_var 0) je_int (by walk_at "i")) (by walk_at "len")) (by rw [List.length_map])) (by omega))) (show _ = eL (List.range n.steps.length) from rfl)) ?_)
  refine jb_cons (js_new 5 C (jf_as (jf_lst jd_nil) (show _ = ([] : List (List Nat)).map eL from rfl)) ?_)
  refine jb_cons (js_while (m0 := n.steps.length) (fun j s' => ∃ (L : List Nat) (Q : List (List Nat)) (f : Nat), Sub n.steps.length L ∧ L.length ≤ f ∧ j = L.length ∧ Q ++ roundsF n W f L = n.rounds W ∧ Q.length + L.length ≤ n.steps.length ∧ s' = ⟨[.d n.e, .d (.int (W : Nat)), .u, .d (.lst (fs.map eN)), .d (eL L), .c 0, .u, .u, .u, .u], [.lst (Q.map eL)]⟩) C ⟨List.range n.steps.length, [], n.steps.length, Sub.range _, by rw [List.length_range]; exact Nat.le_refl _, by rw [List.length_range], rfl, by rw [List.length_range]; exact Nat.le_of_eq (Nat.zero_add _), rfl⟩ ?_)
  rintro j s' ⟨L, Q, f, hS, hLf, rfl, hQ, hQl, rfl⟩
  refine ⟨_, jt_tru (je_var 4), fun hq => ?_, fun hq => ?_⟩
  · cases L with
    | nil => cases hq
    | cons x t =>
      cases f with
      | zero => exact absurd hLf (by rw [List.length_cons]; omega)
      | succ f =>
        rw [roundsF] at hQ
        have hne : x :: t ≠ [] := fun z => nomatch z
        generalize x :: t = L at *
        have hlt := next_lt hg hW hS hne
        have hsp := split_len (W := W) hS
        have hLm := hS.len
        have hlL : L.length ≤ sizeLine := by rw [sizeLine_eq]; omega
        refine jb_drop ?_
        refine jb_cons (js_newLc 7 C (lc_as (lc_filter (f := eN) (pr := rdy n L) 2 L C (ji_list (je_var 4)) (fun k hk _ _ _ _ _ C => (jt_as (jt_not (jt_val (je_anyM (pr := waits n L) (lst := [(n.steps.getD k (0, 0)).1, (n.steps.getD k (0, 0)).2]) C T.any (je_f (jf_lc C (lc_map (enc := eN) (f := fun o : Nat => D.bl (waits n L o)) 6 [(n.steps.getD k (0, 0)).1, (n.steps.getD k (0, 0)).2] C (ji_tup (je_ix (je_ix (je_var 0) je_int (by walk_at "i")) (je_var 2) (show IxD (.lst (n.steps.map eP)) (.int (k : Nat)) (eP (n.steps.getD k (0, 0))) from ix_lst eP (0, 0) (hS.lt hk)))) (fun o ho _ _ _ _ _ C => (je_as (je_cmp C (je_bin (je_var 6) (je_ix (je_var 0) je_int (by walk_at "i")) .subI) (je_var 4) (.inL 0 (by decide) (sh_int 0 _) (fun z hz => by obtain ⟨a, _, rfl⟩ := List.mem_map.mp hz; exact sh_eN 0 a))) (congrArg D.bl (inD_waits n L o)))) (by rw [sizeLine_eq]; exact Nat.le_of_ble_eq_true rfl))))))) (show _ = rdy n L k by rw [rdy, List.any_cons, List.any_cons, List.any_nil, Bool.or_false]))) (fun k hk hp _ _ _ _ _ C => (je_var 2)) hlL) (show _ = (rdyL n L).map eN from rfl)) ?_)
        refine jb_cons (js_new 8 C (jf_as (jf_lst jd_nil) (show _ = ([] : List Nat).map eN from rfl)) ?_)
        have hRl : (rdyL n L).length ≤ n.steps.length := (rdy_sub hS).len
        refine jb_cons (js_while (m0 := (rdyL n L).length) (fun j s' => ∃ R Cn : List Nat, R.Pairwise (· < ·) ∧ (∀ k ∈ R, k < n.steps.length) ∧ Cn ++ sel n.far (W - Cn.length) R = chosen n W L ∧ j = R.length ∧ Cn.length + R.length ≤ n.steps.length ∧ s' = ⟨[.d n.e, .d (.int (W : Nat)), .u, .d (.lst (fs.map eN)), .d (eL L), .c 0, .u, .c 1, .c 2, .u], [.lst (Q.map eL), .lst (R.map eN), .lst (Cn.map eN)]⟩) C ⟨rdyL n L, [], (rdy_sub hS).pw, fun k hk => (rdy_sub hS).lt hk, rfl, rfl, by rw [List.length_nil]; omega, rfl⟩ ?_)
        rintro j s' ⟨R, Cn, hR, hRm, hC, rfl, hCR, rfl⟩
        refine ⟨_, jt_view (jt_w (jw_and (jt_tru (je_var 7)) (jw_and1 (jt_cmp C (je_len T.len (je_var 8) (by walk_at "len")) (je_var 1) .lt)))), fun hq => ?_, fun hq => ?_⟩
        · rw [Bool.and_eq_true, List.length_map] at hq
          obtain ⟨q1, q2⟩ := hq
          have q2 := of_decide_eq_true q2
          have hRne : R ≠ [] := fun z => by rw [z] at q1; cases q1
          have hpos := List.length_pos_iff.mpr hRne
          have hbm := best_mem (far := n.far) hR hRne
          have x0 : IxD (.lst (R.map eN)) (.int ((0 : Nat) : Int)) (eN (R.getD 0 0)) := ix_lst eN 0 hpos
          refine jb_cons (js_set 9 C (je_view (je_ix (je_var 7) je_int x0)) ?_)
          refine jb_cons (js_foldC (R := fun _ => True) 7 1 R (bestF n.far) (R.getD 0 0) (fun b => ⟨[.d n.e, .d (.int (W : Nat)), .u, .d (.lst (fs.map eN)), .d (eL L), .c 0, .u, .c 1, .c 2, .d (eN b)], [.lst (Q.map eL), .lst (R.map eN), .lst (Cn.map eN)]⟩) (fun _ b => b < n.steps.length) (enc := eN) C (hRm _ (getD_mem 0 hpos)) (fun _ => rfl) ?_ ?_)
          · intro i k b hk _ hb2
            have hkm := hRm k (List.mem_of_getElem? hk)
            refine jg_name 2 C.nd ?_
            refine jb_cons (js_if (jt_cmp C (je_ix (je_var 3) (je_var 2) (xf k hkm)) (je_ix (je_var 3) (je_var 9) (xf b hb2)) .gt) (fun hq => ?_) (fun hq => ?_))
            · have hq : n.far b < n.far k := by have := of_decide_eq_true hq; omega
              refine jb_cons (js_set 9 C (je_var 2) ?_)
              refine jb_nil (jb_fin (t := ⟨[.d n.e, .d (.int (W : Nat)), .u, .d (.lst (fs.map eN)), .d (eL L), .c 0, .u, .c 1, .c 2, .d (eN (bestF n.far b k))], [.lst (Q.map eL), .lst (R.map eN), .lst (Cn.map eN)]⟩) ⟨rfl, ?_⟩ rfl ?_)
              · rw [bestF, if_pos hq]; exact hkm
              · rw [bestF, if_pos hq]; (repeat (first | exact Les.nil | apply Les.eq | apply Les.u))
            · have hq : ¬ n.far b < n.far k := by have := of_decide_eq_false hq; omega
              refine jb_nil (jb_fin (t := ⟨[.d n.e, .d (.int (W : Nat)), .u, .d (.lst (fs.map eN)), .d (eL L), .c 0, .u, .c 1, .c 2, .d (eN (bestF n.far b k))], [.lst (Q.map eL), .lst (R.map eN), .lst (Cn.map eN)]⟩) ⟨rfl, ?_⟩ rfl ?_)
              · rw [bestF, if_neg hq]; exact hb2
              · rw [bestF, if_neg hq]; (repeat (first | exact Les.nil | apply Les.eq | apply Les.u))
          · intro _
            have eb : R.foldl (bestF n.far) (R.getD 0 0) = best n.far R := rfl
            rw [eb, eN_intsR R]
            refine jb_cons (js_rem 7 1 (ns := R.map fun a : Nat => (a : Int)) (n := ((best n.far R : Nat) : Int)) C (je_var 9) (List.mem_map.mpr ⟨_, hbm, rfl⟩) ?_)
            rw [erase_cast, ← eN_intsR]
            refine jb_cons (js_app 8 2 (je_var 9) ?_ ?_)
            · rw [List.length_map, sizeLine_eq]; omega
            have hel : (R.erase (best n.far R)).length = R.length - 1 := List.length_erase_of_mem hbm
            refine jb_fin (t := ⟨[.d n.e, .d (.int (W : Nat)), .u, .d (.lst (fs.map eN)), .d (eL L), .c 0, .u, .c 1, .c 2, .u], [.lst (Q.map eL), .lst ((R.erase (best n.far R)).map eN), .lst ((Cn ++ [best n.far R]).map eN)]⟩) ⟨(R.erase (best n.far R)).length, by omega, R.erase (best n.far R), Cn ++ [best n.far R], erase_pw hR _, fun k hk => hRm k (List.mem_of_mem_erase hk), ?_, rfl, ?_, rfl⟩ ?_
            · rw [← hC, List.append_assoc, List.length_append]
              congr 1
              have e1 : W - Cn.length = (W - (Cn.length + 1)) + 1 := by omega
              rw [e1]
              show [best n.far R] ++ sel n.far (W - (Cn.length + 1)) _ = _
              cases R with
              | nil => exact absurd rfl hRne
              | cons y r => rfl
            · rw [List.length_append]; show _ + 1 + _ ≤ _; omega
            · rw [List.map_append]; rfl
        · have eC : Cn = chosen n W L := by
            rw [← hC]
            rw [List.length_map] at hq
            cases R with
            | nil => rw [sel_nil, List.append_nil]
            | cons y r =>
              have hq : decide ((Cn.length : Int) < (W : Int)) = false := hq
              have hq := of_decide_eq_false hq
              rw [show W - Cn.length = 0 by omega]
              exact (List.append_nil _).symm
          subst eC
          have hcl : (chosen n W L).length ≤ sizeLine := by rw [sizeLine_eq]; omega
          refine jb_freeze 8 2 ?_
          have hp : ((here n W L).map fun a : Nat => (a : Int)).Perm ((chosen n W L).map fun a : Nat => (a : Int)) := (here_perm hS).map _
          refine jb_cons (js_app 5 0 (je_as (je_f (jf_sortedI (ns := (chosen n W L).map fun a : Nat => (a : Int)) (ms := (here n W L).map fun a : Nat => (a : Int)) T.sorted (je_as (je_var 8) (show _ = D.lst (((chosen n W L).map fun a : Nat => (a : Int)).map .int) by rw [List.map_map]; rfl)) hp (pw_int (Sub.pw Sub.of)))) (show _ = eL (here n W L) by rw [List.map_map]; rfl)) ?_ ?_)
          · rw [List.length_map, sizeLine_eq]; omega
          refine jb_cons (js_set 4 C (je_as (je_f (jf_lc C (lc_filter (f := eN) (pr := fun k => decide (k ∉ chosen n W L)) 2 L C (ji_list (je_var 4)) (fun k hk _ _ _ _ _ C => (jt_as (jt_cmp C (je_var 2) (je_var 8) (.ninL 0 (by decide) (sh_eN 0 k) (fun z hz => by obtain ⟨a, _, rfl⟩ := List.mem_map.mp hz; exact sh_eN 0 a))) ?nin)) (fun k hk hp _ _ _ _ _ C => (je_var 2)) hlL))) (show _ = eL (next n W L) from rfl)) ?_)
          case nin =>
            show (!inD (.int (k : Nat)) ((chosen n W L).map eN)) = _
            rw [inD_nat, ← decide_not, decide_eq_decide]
            refine not_congr ⟨?_, fun z => ⟨k, z, rfl⟩⟩
            rintro ⟨a, h1, h2⟩
            have e : a = k := by omega
            rw [← e]; exact h1
          refine jb_finD ⟨[.d n.e, .d (.int (W : Nat)), .u, .d (.lst (fs.map eN)), .d (eL (next n W L)), .c 0, .u, .u, .u, .u], [.lst ((Q ++ [here n W L]).map eL)]⟩ ⟨(next n W L).length, hlt, next n W L, Q ++ [here n W L], f, next_sub hS, by omega, rfl, by rw [List.append_assoc]; exact hQ, by rw [List.length_append]; show _ + 1 + _ ≤ _; omega, rfl⟩ ?_
          rw [List.map_append]
          rfl
  · have e : L = [] := by
      cases L with
      | nil => rfl
      | cons x t => cases hq
    subst e
    have e2 : roundsF n W f [] = [] := by cases f <;> rfl
    rw [e2, List.append_nil] at hQ
    rw [hQ]
    refine jb_freeze 5 0 ?_
    exact jb_cons (js_ret (je_var 5) rfl)
end
end Wk

namespace Wk
open PySem PySem.Spec PyProof.Rows L2 DL Sm
section
variable {Pg : Program} {w : World} {K : PySem.W.Frag} {mg : Str → Option Value} {base : Heap}
theorem word_ix {j : Nat} (h : j < 4) : ([D.str "line", .str "halves", .str "strides", .str "updown"] : List D).getD j .non = .str (wordS j) := by
  match j, h with
  | 0, _ => rfl
  | 1, _ => rfl
  | 2, _ => rfl
  | 3, _ => rfl
abbrev sTold : Stmt := topS 31
theorem scTold : FnScope ["_law_way", "_law_net_here", "_law_workers", "_law_kept", "_law_found", "e"] ["_law_way", "_law_net_here", "_law_workers"] (defScope sTold) := ⟨rfl, rfl, rfl, by decide +kernel, rfl, by decide +kernel, by decide +kernel⟩
def toldC : Nat → Res := fun j => .ok (.str (refS.getD j ""))
def toldW (a : Nat) (m : Nt) (W : Nat) : D := if a = 0 then eR (m.rounds W) else eN (m.leastR W)
def preTold : List D → Res → Prop := fun ds z => ∃ (a : Nat) (n : N3) (v : Int), a < 2 ∧ n.fit ∧ ds = [.int (a : Nat), n.e, .int v] ∧ dueR toldC (fun m W => .ok (toldW a m W)) n v z
structure Refs (K : PySem.W.Frag) (mg : Str → Option Value) (cS cK cN : Addr) : Prop where
  gS : mg "SumError" = some (.ref cS)
  rK : RefF K mg cK 0
  rN : RefF K mg cN 1
  hK : PySem.W.exmOne K (.ref cK) (.ref cS) = some true
  hN : PySem.W.exmOne K (.ref cN) (.ref cS) = some true
theorem fn_told {f : Addr} {fd : FuncData} (F : Fun K "_law_told" "_law_told" sTold f fd) (hb : Binds K fd ["_law_way", "_law_net_here", "_law_workers"] []) (hm : mg "_law_told" = some (.ref f)) {cK cN cS : Addr} (R : Refs K mg cS cK cN)
    (Frounds : Fn Pg w K mg base "rounds" 2 2 (preRds (fun m W => eR (m.rounds W)) cK cN)) (Ffewest_rounds : Fn Pg w K mg base "fewest_rounds" 2 3 (preRds (fun m W => eN (m.leastR W)) cK cN)) (F_law_refusal : Fn Pg w K mg base "_law_refusal" 1 1 (preRefusal K mg)) : Fn Pg w K mg base "_law_told" 3 4 preTold := by
  refine fn_ok (ps := ["_law_way", "_law_net_here", "_law_workers"]) F scTold hb hm (fun ds r ⟨a, n, v, _, _, h, _⟩ => by rw [h]; rfl) (by decide) fun cdv A outer s H E C ds r h => ?_
  have hSu : Names (cxOf (CX Pg w) Pg w K mg base ["_law_way", "_law_net_here", "_law_workers", "_law_kept", "_law_found", "e"] "_law_told" (defScope sTold) f cdv A outer s H E) "SumError" (.ref cS) := ⟨rfl, by decide, .inl R.gS⟩
  obtain ⟨a, n, v, ha, hf, rfl, h⟩ := h
  show JB _ _ _ ⟨[.d (.int (a : Nat)), .d n.e, .d (.int v), .u, .u, .u], []⟩ _
  refine jb_cons (js_set 3 C je_non ?_)
  refine jb_cons (js_set 4 C je_non ?_)
  have a01 : ∀ {p : Prop}, decide ((a : Int) = 0) = true → ¬ a = 0 → p := fun h1 h2 => absurd (show a = 0 by have := of_decide_eq_true h1; omega) h2
  have a10 : ∀ {p : Prop}, decide ((a : Int) = 0) = false → a = 0 → p := fun h1 h2 => absurd (show ¬ a = 0 by have := of_decide_eq_false h1; omega) (fun z => z h2)
  refine jb_cut (fun s' => (∃ c j, RefF K mg c j ∧ r = toldC j ∧ s' = ⟨[.d (.int (a : Nat)), .d n.e, .d (.int v), .d (.exc c), .d .non, .u], []⟩) ∨ ∃ d, r = .ok d ∧ s' = ⟨[.d (.int (a : Nat)), .d n.e, .d (.int v), .d .non, .d d, .u], []⟩) (js_try 5 3 C hSu fun W pn xe C => ?_) ?_
  · rcases h with ⟨hok, rfl⟩ | ⟨m, hg, hm, ⟨hv, rfl⟩ | ⟨W, hW, hW2, ev, rfl⟩⟩
    · refine jb_cons (js_setE 4 C (je_if (jt_cmp C (je_var 0) je_int .eqI) (fun _ => je_callE C Frounds (by decide) (jd_cons (je_var 1) (jd_cons (je_var 2) jd_nil)) ⟨n, v, hf, rfl, .inl ⟨hok, rfl⟩⟩) (fun _ => je_callE C Ffewest_rounds (by decide) (jd_cons (je_var 1) (jd_cons (je_var 2) jd_nil)) ⟨n, v, hf, rfl, .inl ⟨hok, rfl⟩⟩)) ⟨R.hN, .inl ⟨cN, 1, R.rN, rfl, rfl⟩⟩)
    · refine jb_cons (js_setE 4 C (je_if (jt_cmp C (je_var 0) je_int .eqI) (fun _ => je_callE C Frounds (by decide) (jd_cons (je_var 1) (jd_cons (je_var 2) jd_nil)) ⟨n, v, hf, rfl, .inr ⟨m, hg, hm, .inl ⟨hv, rfl⟩⟩⟩) (fun _ => je_callE C Ffewest_rounds (by decide) (jd_cons (je_var 1) (jd_cons (je_var 2) jd_nil)) ⟨n, v, hf, rfl, .inr ⟨m, hg, hm, .inl ⟨hv, rfl⟩⟩⟩)) ⟨R.hK, .inl ⟨cK, 0, R.rK, rfl, rfl⟩⟩)
    · refine jb_cons (js_set 4 C (d := toldW a m W) (je_if (jt_cmp C (je_var 0) je_int .eqI) (fun hq => je_as (je_call C Frounds (by decide) (jd_cons (je_var 1) (jd_cons (je_var 2) jd_nil)) ⟨n, v, hf, rfl, .inr ⟨m, hg, hm, .inr ⟨W, hW, hW2, ev, rfl⟩⟩⟩) ?t1) (fun hq => je_as (je_call C Ffewest_rounds (by decide) (jd_cons (je_var 1) (jd_cons (je_var 2) jd_nil)) ⟨n, v, hf, rfl, .inr ⟨m, hg, hm, .inr ⟨W, hW, hW2, ev, rfl⟩⟩⟩) ?t2)) (jb_nil (.inr ⟨_, rfl, rfl⟩)))
      case t1 =>
        have e : a = 0 := by have := of_decide_eq_true hq; omega
        rw [toldW, if_pos e]
      case t2 =>
        have e : ¬ a = 0 := by have := of_decide_eq_false hq; omega
        rw [toldW, if_neg e]
  · rintro s' (⟨c, j, rc, rfl, rfl⟩ | ⟨d, rfl, rfl⟩)
    · exact jb_cons (js_ret (je_if (jt_cmp C (je_var 3) je_non (by walk_at "c")) (fun hc => Bool.noConfusion (show false = true from hc)) (fun hc => je_call C F_law_refusal (by decide) (jd_cons (je_var 3) jd_nil) ⟨c, j, rc, rfl, rfl⟩)) rfl)
    · exact jb_cons (js_ret (je_if (jt_cmp C (je_var 3) je_non (by walk_at "c")) (fun hc => (je_var 4)) (fun hc => Bool.noConfusion (show true = false from hc))) rfl)
theorem told_net {a : Nat} (ha : a < 2) (v : Int) : preTold [.int (a : Nat), .tup [.int 0, .lst [], .lst []], .int v] (.ok (.str "net")) :=
  ⟨a, ⟨0, [], []⟩, v, ha, ⟨Nat.zero_le _, Nat.zero_le _, fun _ z => nomatch z⟩, rfl, .inl ⟨fun z => by have := z.w1; exact absurd this (by decide), rfl⟩⟩
end
end Wk

namespace Sm
open PySem L2 DL
/-- a right net of up to five things has few steps -/
theorem rightN_few5 {ns : List Int} {k : Nat} : (rightN ns k 5).steps.length ≤ 15 := by
  obtain ⟨w1, w2⟩ := rWide_le (ns := ns) (k := k) (most := 5) (by decide)
  have z := fold_inv (rStep ns k 5) (fun i s => i ≤ rWide ns k 5 → s.ok (rWide ns k 5) ∧ s.st.length ≤ tri i) (List.range (rWide ns k 5)) (b0 := ⟨[], []⟩) (fun _ => ⟨⟨(fun j p e => by simp at e), (fun q hq => nomatch hq), Nat.le_refl _⟩, Nat.le_refl _⟩) fun i a s ha hP hi => by
    obtain ⟨hk, hj⟩ := List.getElem?_eq_some_iff.mp ha
    rw [List.length_range] at hk
    rw [List.getElem_range] at hj
    subst hj
    obtain ⟨p1, p2⟩ := hP (by omega)
    obtain ⟨c1, _, _, c4⟩ := cutF_ok ns (k + 1) (rWide ns k 5) 5 0 i s (by omega) (Nat.zero_le _) hk p1
    refine ⟨c1, ?_⟩
    show (cutF ns (k + 1) (rWide ns k 5) 5 0 i s).2.st.length ≤ tri i + i
    omega
  rw [List.length_range] at z
  have h := (z (Nat.le_refl _)).2
  have t : ∀ m, m < 6 → tri m ≤ 15 := by decide
  have := t _ (show rWide ns k 5 < 6 by omega)
  show (rEnd ns k 5).st.length ≤ 15
  have e : (rEnd ns k 5).st.length ≤ tri (rWide ns k 5) := h
  omega
theorem known_few : ∀ j, j < 4 → ∀ w, w < 8 → (knownN j w).steps.length ≤ 20 := by decide +kernel
end Sm

namespace Wk
open PySem PySem.Spec PyProof.Rows L2 DL Sm
section
variable {Pg : Program} {w : World} {K : PySem.W.Frag} {mg : Str → Option Value} {base : Heap}
abbrev sLaw : Stmt := topS 34
theorem scLaw : FnScope ["_law_script", "_law_net_here", "_law_workers", "_law_found", "_law_least", "_law_deep", "_law_one", "_law_other", "_law_few", "_law_bad", "_law_way"] ["_law_script"] (defScope sLaw) := ⟨rfl, rfl, rfl, by decide +kernel, rfl, by decide +kernel, by decide +kernel⟩
def preLaw : List D → Res → Prop := fun ds r => ∃ ns : List Int, ds = [.scr ns] ∧ r = .ok (.bl true)
def worksN (i : Nat) : Nat := [1, 2, 3, 5, 64].getD i 0
theorem works_ok {i : Nat} (h : i < 5) : 1 ≤ worksN i ∧ worksN i ≤ 64 := by
  match i, h with
  | 0, _ => exact ⟨by decide, by decide⟩
  | 1, _ => exact ⟨by decide, by decide⟩
  | 2, _ => exact ⟨by decide, by decide⟩
  | 3, _ => exact ⟨by decide, by decide⟩
  | 4, _ => exact ⟨by decide, by decide⟩
def badW (i : Nat) : Int := [0, 65, -1].getD i 0
theorem badW_no {i : Nat} (h : i < 3) : ¬ (1 ≤ badW i ∧ badW i ≤ 64) := by
  match i, h with
  | 0, _ => decide
  | 1, _ => decide
  | 2, _ => decide
theorem fn_law {f : Addr} {fd : FuncData} (F : Fun K "law" "law" sLaw f fd) (hb : Binds K fd ["_law_script"] []) (hm : mg "law" = some (.ref f)) (T : Bt mg) {cK : Addr} (F_law_net : Fn Pg w K mg base "_law_net" 3 3 preNet) (F_law_right : Fn Pg w K mg base "_law_right" 3 24 preRight)
    (F_law_mix : Fn Pg w K mg base "_law_mix" 2 2 preMix) (Fknown : Fn Pg w K mg base "known" 2 9 (preKnown cK)) (F_law_told : Fn Pg w K mg base "_law_told" 3 4 preTold) (F_law_rounds : Fn Pg w K mg base "_law_rounds" 2 22 preLr) (F_law_whole : Fn Pg w K mg base "_law_whole" 1 1 preWhole) : FnOk Pg w K mg base (L2.CX Pg w) 25 f fd ["_law_script"] (spD K preLaw) := by
  refine fn_okX (ps := ["_law_script"]) F scLaw hb hm (fun ds r ⟨ns, h, _⟩ => by rw [h]; rfl) (by decide) fun cdv A outer s H E C ds r h => ?_
  obtain ⟨ns, rfl, rfl⟩ := h
  show JB _ _ _ ⟨[.d (.scr ns), .u, .u, .u, .u, .u, .u, .u, .u, .u, .u], []⟩ _
  refine jb_cons (js_set 1 C (je_call C F_law_net (by decide) (jd_cons (je_var 0) (jd_cons je_int (jd_cons je_int jd_nil))) ⟨ns, 0, 6, rfl, by decide, by decide, rfl⟩) ?_)
  refine jb_cut (fun s' => ∃ n : Nt, n.good ∧ n.steps.length ≤ 20 ∧ s' = ⟨[.d (.scr ns), .d n.e, .u, .u, .u, .u, .u, .u, .u, .u, .u], []⟩) (js_if (jt_cmp C (je_bin (je_call C F_law_mix (by decide) (jd_cons (je_var 0) (jd_cons je_int jd_nil)) ⟨ns, 60, rfl, rfl⟩) je_int (by walk_at "b")) je_int (by walk_at "c")) (fun hb => ?_) (fun hb => ?_)) ?_
  · refine jb_cons (js_set 1 C (je_call C F_law_right (by decide) (jd_cons (je_var 0) (jd_cons je_int (jd_cons je_int jd_nil))) ⟨ns, 61, 5, rfl, by decide, by decide, rfl⟩) ?_)
    exact jb_nil ⟨_, (rightN_good (ns := ns) (k := 61) (most := 5) (by decide) (by decide)).1, by have := rightN_few5 (ns := ns) (k := 61); omega, rfl⟩
  · exact jb_nil ⟨_, netN_good (by decide) (by decide), by have := netN_few (ns := ns) (k := 0) (most := 6); omega, rfl⟩
  rintro s' ⟨n0, hg0, h20, rfl⟩
  refine jb_cut (fun s' => ∃ n : Nt, n.good ∧ n.steps.length ≤ 20 ∧ s' = ⟨[.d (.scr ns), .d n.e, .u, .u, .u, .u, .u, .u, .u, .u, .u], []⟩) (js_if (jt_cmp C (je_bin (je_call C F_law_mix (by decide) (jd_cons (je_var 0) (jd_cons je_int jd_nil)) ⟨ns, 60, rfl, rfl⟩) je_int (by walk_at "b")) je_int (by walk_at "c")) (fun hb => ?_) (fun hb => ?_)) ?_
  · have q4 : mixN ns 62 % 4 < 4 := Nat.mod_lt _ (by decide)
    have q7 : mixN ns 63 % 7 < 7 := Nat.mod_lt _ (by decide)
    obtain ⟨kg, ks⟩ := known_good (j := mixN ns 62 % 4) (w := 1 + mixN ns 63 % 7) q4 (by omega) (by omega)
    refine jb_cons (js_set 1 C (je_call C Fknown (by decide) (jd_cons (je_as (je_ix (je_f (jf_lst (jd_cons je_str (jd_cons je_str (jd_cons je_str (jd_cons je_str jd_nil)))))) (je_as (je_bin (je_call C F_law_mix (by decide) (jd_cons (je_var 0) (jd_cons je_int jd_nil)) ⟨ns, 62, rfl, rfl⟩) je_int (by walk_at "b")) (show _ = D.int ((mixN ns 62 % 4 : Nat) : Int) from rfl)) (ix_disp q4)) (word_ix q4)) (jd_cons (je_as (je_bin je_int (je_bin (je_call C F_law_mix (by decide) (jd_cons (je_var 0) (jd_cons je_int jd_nil)) ⟨ns, 63, rfl, rfl⟩) je_int (by walk_at "b")) (by walk_at "b")) (show _ = D.int ((1 + mixN ns 63 % 7 : Nat) : Int) from rfl)) jd_nil)) (.inl ⟨mixN ns 62 % 4, 1 + mixN ns 63 % 7, q4, by omega, by omega, rfl, rfl⟩)) ?_)
    exact jb_nil ⟨_, kg, known_few _ q4 _ (by omega), rfl⟩
  · exact jb_nil ⟨_, hg0, h20, rfl⟩
  rintro s' ⟨n, hg, hn20, rfl⟩
  have g1 := hg.w1; have g2 := hg.w2
  have q5 : mixN ns 64 % 5 < 5 := Nat.mod_lt _ (by decide)
  obtain ⟨hW, hW2⟩ := works_ok q5
  refine jb_cons (js_set 2 C (je_as (je_ix (je_f (jf_lst (jd_cons je_int (jd_cons je_int (jd_cons je_int (jd_cons je_int (jd_cons je_int jd_nil))))))) (je_as (je_bin (je_call C F_law_mix (by decide) (jd_cons (je_var 0) (jd_cons je_int jd_nil)) ⟨ns, 64, rfl, rfl⟩) je_int (by walk_at "b")) (show _ = D.int ((mixN ns 64 % 5 : Nat) : Int) from rfl)) (ix_lst eN (l := [1, 2, 3, 5, 64]) 0 q5)) (show _ = D.int ((worksN (mixN ns 64 % 5) : Nat) : Int) from rfl)) ?_)
  generalize worksN (mixN ns 64 % 5) = W at *
  have due : ∀ a : Nat, a < 2 → preTold [.int (a : Nat), n.e, .int (W : Nat)] (.ok (toldW a n W)) := fun a ha => ⟨a, n.n3, (W : Nat), ha, hg.fit, by rw [n.e_n3], .inr ⟨n, hg, rfl, .inr ⟨W, hW, hW2, rfl, rfl⟩⟩⟩
  refine jb_cons (js_set 3 C (je_as (je_call C F_law_told (by decide) (jd_cons je_int (jd_cons (je_var 1) (jd_cons (je_var 2) jd_nil))) (due 0 (by decide))) (show _ = eR (n.rounds W) from rfl)) ?_)
  refine jb_cons (js_set 4 C (je_as (je_call C F_law_told (by decide) (jd_cons je_int (jd_cons (je_var 1) (jd_cons (je_var 2) jd_nil))) (due 1 (by decide))) (show _ = eN (n.leastR W) from rfl)) ?_)
  refine jb_cons (js_new 5 C (jf_rep1 eN 0 n.wide (je_f (jf_lst (jd_cons je_int jd_nil))) (je_ix (je_var 1) je_int (by walk_at "i")) (by omega)) ?_)
  refine jb_cons (js_fold n.steps depF (List.replicate n.wide 0) (fun b => ⟨[.d (.scr ns), .d n.e, .d (.int (W : Nat)), .d (eR (n.rounds W)), .d (eN (n.leastR W)), .c 0, .u, .u, .u, .u, .u], [.lst (b.map eN)]⟩) (fun i b => b.length = n.wide + i) C (ji_list (je_ix (je_var 1) je_int (by walk_at "i"))) (by rw [List.length_replicate]; rfl) ?_ ?_)
  · intro i a b ha _ hQ
    have h1 := hg.st i a ha
    have hi := (List.getElem?_eq_some_iff.mp ha).1
    have x1 : IxD (.lst (b.map eN)) (.int (a.1 : Nat)) (eN (b.getD a.1 0)) := ix_lst eN 0 (by omega)
    have x2 : IxD (.lst (b.map eN)) (.int (a.2 : Nat)) (eN (b.getD a.2 0)) := ix_lst eN 0 (by omega)
    refine jg_n2 6 7 C ?_
    refine jb_cons (js_app 5 0 (je_view (je_bin je_int (je_max2 C T.max (je_ix (je_var 5) (je_var 6) x1) (je_ix (je_var 5) (je_var 7) x2)) .addI)) ?_ ?_)
    · rw [List.length_map, sizeLine_eq]; omega
    refine jb_fin (t := ⟨[.d (.scr ns), .d n.e, .d (.int (W : Nat)), .d (eR (n.rounds W)), .d (eN (n.leastR W)), .c 0, .u, .u, .u, .u, .u], [.lst ((depF b a).map eN)]⟩) ⟨rfl, ?_⟩ ?_
    · rw [depF, List.length_append, hQ]; rfl
    · unfold depF
      rw [List.map_append]
      exact congrArg (fun z => [Cl.lst (b.map eN ++ [D.int z])]) (show (1 : Int) + max ((b.getD a.1 0 : Nat) : Int) ((b.getD a.2 0 : Nat) : Int) = ((1 + max (b.getD a.1 0) (b.getD a.2 0) : Nat) : Int) by omega)
  intro _
  refine jb_freeze 5 0 ?_
  have edp : (D.lst ((n.steps.foldl depF (List.replicate n.wide 0)).map eN)) = eL n.dep := rfl
  rw [edp]
  refine jb_cons (js_set 8 C (je_as je_int (show _ = eN 0 from rfl)) ?_)
  have hfm : fewN n.steps.length W ≤ n.steps.length := fewN_le hW (Nat.le_mul_of_pos_left _ hW)
  refine jb_cut (fun s' => s' = ⟨[.d (.scr ns), .d n.e, .d (.int (W : Nat)), .d (eR (n.rounds W)), .d (eN (n.leastR W)), .d (eL n.dep), .u, .u, .d (eN (fewN n.steps.length W)), .u, .u], [.dead]⟩) (js_while (m0 := fewN n.steps.length W) (fun j s' => ∃ c : Nat, c ≤ fewN n.steps.length W ∧ j = fewN n.steps.length W - c ∧ s' = ⟨[.d (.scr ns), .d n.e, .d (.int (W : Nat)), .d (eR (n.rounds W)), .d (eN (n.leastR W)), .d (eL n.dep), .u, .u, .d (eN c), .u, .u], [.dead]⟩) C ⟨0, Nat.zero_le _, rfl, rfl⟩ ?_) ?_
  · rintro j s' ⟨c, hc, rfl, rfl⟩
    refine ⟨_, jt_cmp C (je_bin (je_var 8) (je_var 2) (.mulI (.inl ⟨by omega, by omega⟩))) (je_len T.len (je_ix (je_var 1) je_int (by walk_at "i")) (by walk_at "len")) .lt, fun hq => ?_, fun hq => ?_⟩
    · have hq := of_decide_eq_true hq
      rw [List.length_map] at hq
      have hlt : c < fewN n.steps.length W := by
        by_cases z : c < fewN n.steps.length W
        · exact z
        · have ec : c = fewN n.steps.length W := by omega
          have := fewN_ge (m := n.steps.length) hW
          rw [← ec] at this
          have : (n.steps.length : Int) ≤ (c : Int) * (W : Int) := by exact_mod_cast this
          omega
      refine jb_cons (js_set 8 C (je_as (je_bin (je_var 8) je_int .addI) (show _ = eN (c + 1) from rfl)) ?_)
      exact jb_nil ⟨fewN n.steps.length W - (c + 1), by omega, c + 1, by omega, rfl, rfl⟩
    · have hq := of_decide_eq_false hq
      rw [List.length_map] at hq
      have : n.steps.length ≤ W * c := by
        have h : (n.steps.length : Int) ≤ (c : Int) * (W : Int) := by omega
        rw [Nat.mul_comm]
        exact_mod_cast h
      have := fewN_le hW this
      have ec : c = fewN n.steps.length W := by omega
      subst ec
      exact rfl
  rintro s' rfl
  have shR : Sh 2 (eR (n.rounds W)) := sh_lst fun x _ => sh_lst fun y _ => sh_eN 0 y
  have hne : n.dep ≠ [] := fun z => by have := n.dep_len; rw [z] at this; simp at this; omega
  refine jb_cons (js_if (jt_as (jt_w (jw_or (jt_as (jt_cmp C (je_var 3) (je_call C F_law_rounds (by decide) (jd_cons (je_var 1) (jd_cons (je_var 2) jd_nil)) ⟨n, W, hg, hn20, hW, hW2, rfl, rfl⟩) (.ne 2 (by decide) shR shR)) (show _ = false by rw [eqv_self shR]; rfl)) (jw_or (jt_as (jt_not (jt_val (je_call C F_law_whole (by decide) (jd_cons (je_var 4) jd_nil) ⟨_, rfl, rfl⟩))) (show _ = false from rfl)) (jw_or1 (jt_as (jt_cmp C (je_var 4) (je_max2 C T.max (je_var 8) (je_maxL (ns := n.dep.map fun a : Nat => (a : Int)) C T.max (je_as (je_var 5) (show _ = D.lst ((n.dep.map fun a : Nat => (a : Int)).map .int) by rw [List.map_map]; rfl)) (List.mem_map.mpr ⟨_, maxN_mem hne, rfl⟩) (fun y hy => by
      obtain ⟨z, hz, rfl⟩ := List.mem_map.mp hy
      have := maxN_ge hz
      show (z : Int) ≤ ((maxN n.dep : Nat) : Int)
      omega))) .neI) (show _ = false by
        have e : ((n.leastR W : Nat) : Int) = max ((fewN n.steps.length W : Nat) : Int) ((maxN n.dep : Nat) : Int) := by unfold Nt.leastR; omega
        rw [decide_eq_true e]; rfl)))))) (show _ = false from rfl)) (fun hq => Bool.noConfusion hq) (fun _ => ?_))
  refine jb_nil ?_
  have lr : ((n.rounds W).map eL).length = (n.rounds W).length := List.length_map ..
  have l1 := rounds_least hg hW
  refine jb_cons (js_if (jt_as (jt_w (jw_or (jt_as (jt_cmp C (je_len T.len (je_var 3) (by walk_at "len")) (je_var 4) .lt) (show _ = false by rw [lr]; exact decide_eq_false (by omega))) (jw_or1 (jt_as (jt_w (jw_and (jt_cmp C (je_var 2) (je_as (je_tup (jd_cons je_int (jd_cons je_int jd_nil))) (show _ = D.tup (([1, 64] : List Int).map .int) from rfl)) .inTI) (jw_and1 (jt_cmp C (je_len T.len (je_var 3) (by walk_at "len")) (je_var 4) .neI)))) ?an)))) (show _ = false from rfl)) (fun hq => Bool.noConfusion hq) (fun _ => ?_))
  case an =>
    rw [lr]
    by_cases hw : W = 1 ∨ W = 64
    · have e : (n.rounds W).length = n.leastR W := by
        rcases hw with e | e
        · subst e; exact rounds_1 hg
        · subst e; exact rounds_wide hg (by decide) (by omega)
      rw [e, decide_eq_true rfl, Bool.not_true, Bool.and_false]
    · have e : (([1, 64] : List Int).any fun j => decide (j = (W : Int))) = false := by
        rw [List.any_cons, List.any_cons, List.any_nil, decide_eq_false (show ¬ (1 : Int) = (W : Int) by omega), decide_eq_false (show ¬ (64 : Int) = (W : Int) by omega)]
        rfl
      rw [e, Bool.false_and]
  refine jb_nil ?_
  have q3 : mixN ns 65 % 3 < 3 := Nat.mod_lt _ (by decide)
  have nb := badW_no q3
  refine jb_cons (js_set 9 C (je_as (je_ix (je_f (jf_lst (jd_cons je_int (jd_cons je_int (jd_cons (je_neg je_int) jd_nil))))) (je_as (je_bin (je_call C F_law_mix (by decide) (jd_cons (je_var 0) (jd_cons je_int jd_nil)) ⟨ns, 65, rfl, rfl⟩) je_int (by walk_at "b")) (show _ = D.int ((mixN ns 65 % 3 : Nat) : Int) from rfl)) (ix_lst D.int (l := [0, 65, -1]) 0 q3)) (show _ = D.int (badW (mixN ns 65 % 3)) from rfl)) ?_)
  generalize badW (mixN ns 65 % 3) = z at *
  have hl2 : (List.range 2).length ≤ sizeLine := by rw [List.length_range, sizeLine_eq]; omega
  have ssk : PyData.strOk ("kind" : Str) = true := by decide +kernel
  have ssn : PyData.strOk ("net" : Str) = true := by decide +kernel
  have shk : Sh 1 (.lst ((List.replicate 2 ("kind" : Str)).map .str)) := sh_lst fun x hx => by rw [List.eq_of_mem_replicate hx]; exact ssk
  have shn : Sh 1 (.lst ((List.replicate 2 ("net" : Str)).map .str)) := sh_lst fun x hx => by rw [List.eq_of_mem_replicate hx]; exact ssn
  refine jb_cons (js_if (jt_as (jt_cmp C (je_as (je_f (jf_lc C (lc_map (f := fun _ : Nat => D.str "kind") 10 (List.range 2) C (ji_range1 T.range je_int (by decide)) (fun a ha _ _ _ _ _ C => (je_call C F_law_told (by decide) (jd_cons (je_var 10) (jd_cons (je_var 1) (jd_cons (je_var 9) jd_nil))) ⟨a, n.n3, z, List.mem_range.mp ha, hg.fit, by rw [n.e_n3], .inr ⟨n, hg, rfl, .inl ⟨nb, rfl⟩⟩⟩)) hl2))) (show _ = D.lst ((List.replicate 2 ("kind" : Str)).map .str) from rfl)) (je_as (je_f (jf_rep1 (fun _ : Nat => D.str "kind") 0 2 (je_f (jf_lst (jd_cons je_str jd_nil))) je_int (by decide))) (show _ = D.lst ((List.replicate 2 ("kind" : Str)).map .str) from rfl)) (.ne 1 (by decide) shk shk)) (show _ = false by rw [eqv_self shk]; rfl)) (fun hq => Bool.noConfusion hq) (fun _ => ?_))
  refine jb_nil ?_
  exact jb_cons (js_ret (je_as (je_cmp C (je_as (je_f (jf_lc C (lc_map (f := fun _ : Nat => D.str "net") 10 (List.range 2) C (ji_range1 T.range je_int (by decide)) (fun a ha _ _ _ _ _ C => (je_call C F_law_told (by decide) (jd_cons (je_var 10) (jd_cons (je_tup (jd_cons je_int (jd_cons (je_f (jf_lst jd_nil)) (jd_cons (je_f (jf_lst jd_nil)) jd_nil)))) (jd_cons (je_var 9) jd_nil))) (told_net (List.mem_range.mp ha) z))) hl2))) (show _ = D.lst ((List.replicate 2 ("net" : Str)).map .str) from rfl)) (je_as (je_f (jf_rep1 (fun _ : Nat => D.str "net") 0 2 (je_f (jf_lst (jd_cons je_str jd_nil))) je_int (by decide))) (show _ = D.lst ((List.replicate 2 ("net" : Str)).map .str) from rfl)) (.eq 1 (by decide) shn shn)) (show _ = D.bl true by rw [eqv_self shn])) rfl)
end
end Wk

namespace Wk
open PySem PySem.Spec PyProof.Rows L2 DL
/-! ### what the top has written -/
def dD (x : Str) (st : Stmt) : He.FnD := ⟨(x, none), x, x, defArgs st, defBody st, defScope st⟩
def dM (x m q : Str) (st : Stmt) : He.FnD := ⟨(x, some m), m, q, defArgs st, defBody st, defScope st⟩
/-- a tuple of texts -/
def strsOf : List Value → Option (List Str)
  | [] => some []
  | .str z _ :: r => (strsOf r).map (z :: ·)
  | _ :: _ => none
theorem strsOf_vals : ∀ {us : List Value} {zs : List Str}, strsOf us = some zs → Vals (zs.map V.str) us
  | [], zs, h => by
    have h : some [] = some zs := h
    cases h
    exact .nil
  | .str z t :: r, zs, h => by
    have h : (strsOf r).map (z :: ·) = some zs := h
    cases e : strsOf r with
    | none => rw [e] at h; cases h
    | some ys =>
      rw [e] at h
      have h : z :: ys = zs := Option.some.inj h
      subst h
      exact .cons ⟨t, rfl⟩ (strsOf_vals e)
  | .none :: _, _, h => nomatch h
  | .bool _ :: _, _, h => nomatch h
  | .int _ _ :: _, _, h => nomatch h
  | .ref _ :: _, _, h => nomatch h
  | .type _ :: _, _, h => nomatch h
  | .builtin _ :: _, _, h => nomatch h
/-- more words: what isinstance asks of an error of the class x; kit tests -/
inductive F2 where
  | err (x : Str)
  | kit (x y : Str) (b : Bool)
  | kitT (x : Str) (y : String) (b : Bool)
  | strT (x : Str) (zs : List Str)
def F2.ok (K : PySem.W.Frag) : F2 → Bool
  | .err x => He.eqO (PySem.W.findIn K (.ref (He.ga K x)) "__getattribute__") (some (some (.builtin "BaseException.__getattribute__"))) && (He.eqO (PySem.W.findIn K (.ref (He.ga K x)) "__getattr__") (some none) && (decide (PySem.W.subIn K (.ref (He.ga K x)) (.type "BaseException") = some true) && (PySem.W.hasDictIn K (He.ga K x) && (He.eqO (PySem.W.findIn K (.ref (He.ga K x)) "__class__") (some (some (.builtin "object.__class__"))) && (He.eqO (PySem.W.specialIn K (.builtin "object.__class__") "__get__") (some (some (.builtin "getset_descriptor.__get__"))) && (decide (PySem.W.takesIn K (.builtin "object.__class__") = some true) && decide (PySem.W.mroIn K (He.ga K x) (.type "object") = some true)))))))
  | .kit x y b => decide (PySem.W.kitOne K (.ref (He.ga K x)) (.ref (He.ga K y)) = some b)
  | .kitT x y b => decide (PySem.W.kitOne K (.ref (He.ga K x)) (.type y) = some b)
  | .strT x zs => (match K.lookup (He.ga K x) with
    | some ⟨.type "tuple", _, .seq its _, _⟩ => decide (strsOf its.toList = some zs) && decide (its.size ≤ 100)
    | _ => false)
def Says2 (l : List F2) (K : PySem.W.Frag) : Prop := (l.all fun f => f.ok K) = true
theorem Says2.fact {l : List F2} {K : PySem.W.Frag} (c : Says2 l K) (i : Nat) {f : F2} (h : l[i]? = some f := by rfl) : f.ok K = true := List.all_eq_true.mp c f (List.mem_of_getElem? h)
section
variable {K : PySem.W.Frag} {h : Heap} {mg : Str → Option Value} {P : Program} {w : World} {base : Heap}
theorem err_ok {x : Str} (c : (F2.err x).ok K = true) : ExcC K (He.ga K x) := by
  obtain ⟨c1, c⟩ := He.ba c
  obtain ⟨c2, c⟩ := He.ba c
  obtain ⟨c3, c⟩ := He.ba c
  obtain ⟨c4, c⟩ := He.ba c
  obtain ⟨c5, c⟩ := He.ba c
  obtain ⟨c6, c⟩ := He.ba c
  obtain ⟨c7, c8⟩ := He.ba c
  exact ⟨He.eqO_ok c1, He.eqO_ok c2, of_decide_eq_true c3, c4, He.eqO_ok c5, He.eqO_ok c6, of_decide_eq_true c7, of_decide_eq_true c8⟩
theorem kit_ok {x y : Str} {b : Bool} (c : (F2.kit x y b).ok K = true) : PySem.W.kitOne K (.ref (He.ga K x)) (.ref (He.ga K y)) = some b := of_decide_eq_true c
theorem kitT_ok {x : Str} {y : String} {b : Bool} (c : (F2.kitT x y b).ok K = true) : PySem.W.kitOne K (.ref (He.ga K x)) (.type y) = some b := of_decide_eq_true c
theorem strT_ok {x : Str} {zs : List Str} (c : (F2.strT x zs).ok K = true) : SqT K (fun _ => none) (He.ga K x) (zs.map V.str) := by
  have c2 : (match K.lookup (He.ga K x) with
    | some ⟨.type "tuple", _, .seq its _, _⟩ => decide (strsOf its.toList = some zs) && decide (its.size ≤ 100)
    | _ => false) = true := c
  split at c2
  · rename_i its n sl e
    obtain ⟨c3, c4⟩ := He.ba c2
    exact .inr ⟨_, _, _, e, rfl, rfl, Nat.le_trans (of_decide_eq_true c4) (by rw [sizeLine_eq]; decide), strsOf_vals (of_decide_eq_true c3)⟩
  · cases c2
theorem fun_at {fa : List He.Fa} {fn : List He.FnD} (c : He.SaysE fa fn K) (i : Nat) {x : Str} {st : Stmt} (hi : fn[i]? = some (dD x st)) (k : PySem.W.keepIn K (.ref (He.ga K x)) = true) :
    ∃ kV doc pm an cdv ct, Fun K x x st (He.ga K x) (PySem.W.fnOf x x (defArgs st) (defBody st) (defScope st) .none kV doc pm an cdv ct) := by
  obtain ⟨oc, od, osl, kV, doc, pm, an, cdv, ct, l, cc⟩ := c.def_ i hi
  exact ⟨kV, doc, pm, an, cdv, ct, fun_mk (st := st) l cc k⟩
theorem fun_atM {fa : List He.Fa} {fn : List He.FnD} (c : He.SaysE fa fn K) (i : Nat) {x m q : Str} {st : Stmt} (hi : fn[i]? = some (dM x m q st)) (k : PySem.W.keepIn K (.ref (He.ma K (He.ga K x) m)) = true) :
    ∃ kV doc pm an cdv ct, Fun K m q st (He.ma K (He.ga K x) m) (PySem.W.fnOf m q (defArgs st) (defBody st) (defScope st) .none kV doc pm an cdv ct) := by
  obtain ⟨oc, od, osl, kV, doc, pm, an, cdv, ct, l, cc⟩ := c.def_ i hi
  exact ⟨kV, doc, pm, an, cdv, ct, fun_mk (st := st) l cc k⟩
theorem exc_of (X : K.In h) (G : h.Ns mainGlobals mg) {x : Str} (g : (He.Fa.glo x).ok K = true) (c : (He.Fa.exc x).ok K = true) : ExcOf K mg x (He.ga K x) := by
  obtain ⟨c1, c2, c3, c4⟩ := He.exc_ok c
  exact ⟨c1, He.glo_ok X G g, c2, c3, c4⟩
theorem spD_law {pre : List D → Res → Prop} {H : Hp} {a : Addr} {ns : List Int} (hp : pre [.scr ns] (.ok (.bl true))) (hS : SqL K H a (ns.map V.int)) : spD K pre [.ref a] H (fun v _ => v = .bl true) fun _ _ _ => False :=
  ⟨H, [.scr ns], .ok (.bl true), fun _ _ z => z, .cons (.scr hS) .nil, hp, fun v B' H' _ _ r => by cases r; rfl⟩
theorem cx_no {P : Program} {w : World} {H : Hp} {s : Shared} {e : Value} {s' : Shared} (h : L2.CX P w [] H s (fun _ _ _ => False) e s') : False := by
  obtain ⟨a, B, H', cls, d, _, _, _, _, _, _, _, z⟩ := h
  exact z
end
end Wk

namespace Wk
open PySem PySem.Spec PyProof.Rows L2 DL Sm
def faL : List He.Fa := [.free "len", .free "range", .free "list", .free "tuple", .free "max", .free "min", .free "all", .free "any",
  .free "int", .free "str", .free "bool", .free "isinstance", .free "sorted", .free "set", .free "reversed", .free "ValueError",
  .glo "look_net", .keep "look_net", .glo "depths", .keep "depths", .glo "in_line", .keep "in_line", .glo "by_halves", .keep "by_halves",
  .glo "by_strides", .keep "by_strides", .glo "up_and_down", .keep "up_and_down", .glo "known", .keep "known", .glo "_law_cell", .keep "_law_cell",
  .glo "_law_mix", .keep "_law_mix", .glo "_law_net", .keep "_law_net", .glo "_law_cut", .keep "_law_cut", .glo "_law_right", .keep "_law_right",
  .glo "_law_refusal", .keep "_law_refusal", .glo "_law_whole", .keep "_law_whole", .glo "tails", .keep "tails", .glo "rounds", .keep "rounds",
  .glo "fewest_rounds", .keep "fewest_rounds", .glo "_law_told", .keep "_law_told", .glo "_law_behind", .keep "_law_behind", .glo "_law_rounds", .keep "_law_rounds",
  .glo "law", .keep "law", .glo "SumError", .glo "BadNet", .glo "BadRow", .glo "BadKind", .glo "Wrong", .glo "BadText",
  .int "MOST_WIDE" 64, .int "MOST_STEPS" 500, .exc "BadNet", .exc "BadKind", .exm "BadKind" "SumError" true, .exm "BadNet" "SumError" true, .glo "Maker", .cls "Maker",
  .mkr "Maker", .noat "Maker" "wide", .noat "Maker" "steps", .meth "Maker" "__init__", .meth "Maker" "step", .meth "Maker" "net"]
def fnL : List He.FnD := [dD "look_net" sLook, dD "depths" sDepths, dD "in_line" sLine, dD "by_halves" sHalf, dD "by_strides" sStri, dD "up_and_down" sUpd, dD "known" sKnown, dD "_law_cell" sCell, dD "_law_mix" sMix, dD "_law_net" sNet, dD "_law_cut" sCut, dD "_law_right" sRight, dD "_law_refusal" sRefusal, dD "_law_whole" sWhole, dD "tails" sTails, dD "rounds" sRounds, dD "fewest_rounds" sFew, dD "_law_told" sTold, dD "_law_behind" sBehind, dD "_law_rounds" sLr, dD "law" sLaw, dM "Maker" "__init__" "Maker.__init__" sInit, dM "Maker" "step" "Maker.step" sStep, dM "Maker" "net" "Maker.net" sMnet]
def f2L : List F2 := [.err "BadKind", .kitT "BadKind" "ValueError" true, .kit "BadKind" "BadKind" true, .kit "BadKind" "BadNet" false, .kit "BadKind" "BadRow" false, .kit "BadKind" "BadText" false, .kit "BadKind" "Wrong" false,
  .err "BadNet", .kitT "BadNet" "ValueError" true, .kit "BadNet" "BadKind" false, .kit "BadNet" "BadNet" true, .kit "BadNet" "BadRow" false, .kit "BadNet" "BadText" false, .kit "BadNet" "Wrong" false]
theorem all_mk {K : PySem.W.Frag} {h : Heap} {mg : Str → Option Value} {P : Program} {w : World} {fa : Addr} (X : K.In h) (G : h.Ns mainGlobals mg) (hfa : mg "law" = some (.ref fa)) (c : He.SaysE faL fnL K) (c2 : Says2 f2L K) :
    ∃ fd : FuncData, (∀ (s : Shared) (u : Value), BindsTo s fd ⟨[u], []⟩ [("_law_script", u)]) ∧ ∀ base : Heap, K.In base → base.Ns mainGlobals mg → FnOk P w K mg base (L2.CX P w) 25 fa fd ["_law_script"] (spD K preLaw) := by
  have T : Bt mg := ⟨He.free_ok X G (c.fact 0), He.free_ok X G (c.fact 1), He.free_ok X G (c.fact 2), He.free_ok X G (c.fact 3), He.free_ok X G (c.fact 4), He.free_ok X G (c.fact 5), He.free_ok X G (c.fact 6), He.free_ok X G (c.fact 7), He.free_ok X G (c.fact 8), He.free_ok X G (c.fact 9), He.free_ok X G (c.fact 10), He.free_ok X G (c.fact 11), He.free_ok X G (c.fact 12), He.free_ok X G (c.fact 13), He.free_ok X G (c.fact 14), He.free_ok X G (c.fact 15)⟩
  have g_look_net : mg "look_net" = some (.ref (He.ga K "look_net")) := He.glo_ok X G (c.fact 16)
  have g_depths : mg "depths" = some (.ref (He.ga K "depths")) := He.glo_ok X G (c.fact 18)
  have g_in_line : mg "in_line" = some (.ref (He.ga K "in_line")) := He.glo_ok X G (c.fact 20)
  have g_by_halves : mg "by_halves" = some (.ref (He.ga K "by_halves")) := He.glo_ok X G (c.fact 22)
  have g_by_strides : mg "by_strides" = some (.ref (He.ga K "by_strides")) := He.glo_ok X G (c.fact 24)
  have g_up_and_down : mg "up_and_down" = some (.ref (He.ga K "up_and_down")) := He.glo_ok X G (c.fact 26)
  have g_known : mg "known" = some (.ref (He.ga K "known")) := He.glo_ok X G (c.fact 28)
  have g__law_cell : mg "_law_cell" = some (.ref (He.ga K "_law_cell")) := He.glo_ok X G (c.fact 30)
  have g__law_mix : mg "_law_mix" = some (.ref (He.ga K "_law_mix")) := He.glo_ok X G (c.fact 32)
  have g__law_net : mg "_law_net" = some (.ref (He.ga K "_law_net")) := He.glo_ok X G (c.fact 34)
  have g__law_cut : mg "_law_cut" = some (.ref (He.ga K "_law_cut")) := He.glo_ok X G (c.fact 36)
  have g__law_right : mg "_law_right" = some (.ref (He.ga K "_law_right")) := He.glo_ok X G (c.fact 38)
  have g__law_refusal : mg "_law_refusal" = some (.ref (He.ga K "_law_refusal")) := He.glo_ok X G (c.fact 40)
  have g__law_whole : mg "_law_whole" = some (.ref (He.ga K "_law_whole")) := He.glo_ok X G (c.fact 42)
  have g_tails : mg "tails" = some (.ref (He.ga K "tails")) := He.glo_ok X G (c.fact 44)
  have g_rounds : mg "rounds" = some (.ref (He.ga K "rounds")) := He.glo_ok X G (c.fact 46)
  have g_fewest_rounds : mg "fewest_rounds" = some (.ref (He.ga K "fewest_rounds")) := He.glo_ok X G (c.fact 48)
  have g__law_told : mg "_law_told" = some (.ref (He.ga K "_law_told")) := He.glo_ok X G (c.fact 50)
  have g__law_behind : mg "_law_behind" = some (.ref (He.ga K "_law_behind")) := He.glo_ok X G (c.fact 52)
  have g__law_rounds : mg "_law_rounds" = some (.ref (He.ga K "_law_rounds")) := He.glo_ok X G (c.fact 54)
  have g_law : mg "law" = some (.ref (He.ga K "law")) := He.glo_ok X G (c.fact 56)
  have g_SumError : mg "SumError" = some (.ref (He.ga K "SumError")) := He.glo_ok X G (c.fact 58)
  have g_BadNet : mg "BadNet" = some (.ref (He.ga K "BadNet")) := He.glo_ok X G (c.fact 59)
  have g_BadRow : mg "BadRow" = some (.ref (He.ga K "BadRow")) := He.glo_ok X G (c.fact 60)
  have g_BadKind : mg "BadKind" = some (.ref (He.ga K "BadKind")) := He.glo_ok X G (c.fact 61)
  have g_Wrong : mg "Wrong" = some (.ref (He.ga K "Wrong")) := He.glo_ok X G (c.fact 62)
  have g_BadText : mg "BadText" = some (.ref (He.ga K "BadText")) := He.glo_ok X G (c.fact 63)
  obtain ⟨t_MOST_WIDE, m_MOST_WIDE⟩ := He.int_ok X G (c.fact 64) (x := "MOST_WIDE") (i := 64)
  obtain ⟨t_MOST_STEPS, m_MOST_STEPS⟩ := He.int_ok X G (c.fact 65) (x := "MOST_STEPS") (i := 500)
  have x_BadNet : ExcOf K mg "BadNet" (He.ga K "BadNet") := exc_of X G (c.fact 59) (c.fact 66)
  have x_BadKind : ExcOf K mg "BadKind" (He.ga K "BadKind") := exc_of X G (c.fact 61) (c.fact 67)
  have h_BadKind_SumError := He.exm_ok (c.fact 68) (x := "BadKind") (y := "SumError") (b := true)
  have h_BadNet_SumError := He.exm_ok (c.fact 69) (x := "BadNet") (y := "SumError") (b := true)
  have R_BadKind : RefF K mg (He.ga K "BadKind") 0 := ⟨by decide, err_ok (c2.fact 0), ⟨_, _, _, _, _, ⟨g_BadKind, g_BadNet, g_BadRow, g_BadText, g_Wrong⟩, kit_ok (c2.fact 2), kit_ok (c2.fact 3), kit_ok (c2.fact 4), kit_ok (c2.fact 5), kit_ok (c2.fact 6)⟩, kitT_ok (c2.fact 1)⟩
  have R_BadNet : RefF K mg (He.ga K "BadNet") 1 := ⟨by decide, err_ok (c2.fact 7), ⟨_, _, _, _, _, ⟨g_BadKind, g_BadNet, g_BadRow, g_BadText, g_Wrong⟩, kit_ok (c2.fact 9), kit_ok (c2.fact 10), kit_ok (c2.fact 11), kit_ok (c2.fact 12), kit_ok (c2.fact 13)⟩, kitT_ok (c2.fact 8)⟩
  have g_Maker : mg "Maker" = some (.ref (He.ga K "Maker")) := He.glo_ok X G (c.fact 70)
  have cl_Maker := He.cls_ok (c.fact 71) (x := "Maker")
  have mk_Maker := He.mkr_ok (c.fact 72) (x := "Maker")
  have na_Maker_wide := He.noat_ok (c.fact 73) (x := "Maker") (f := "wide")
  have na_Maker_steps := He.noat_ok (c.fact 74) (x := "Maker") (f := "steps")
  have me_Maker___init__ := He.meth_ok (c.fact 75) (x := "Maker") (m := "__init__")
  obtain ⟨_, _, _, _, _, _, F_Maker___init__⟩ := fun_atM c 21 (x := "Maker") (m := "__init__") (q := "Maker.__init__") (st := sInit) rfl me_Maker___init__.kp
  have b_Maker___init__ := F_Maker___init__.binds (ps := ["self", "wide"]) fun _ _ _ _ _ _ us hl => match us, hl with | [_, _], _ => rfl
  have me_Maker_step := He.meth_ok (c.fact 76) (x := "Maker") (m := "step")
  obtain ⟨_, _, _, _, _, _, F_Maker_step⟩ := fun_atM c 22 (x := "Maker") (m := "step") (q := "Maker.step") (st := sStep) rfl me_Maker_step.kp
  have b_Maker_step := F_Maker_step.binds (ps := ["self", "one", "other"]) fun _ _ _ _ _ _ us hl => match us, hl with | [_, _, _], _ => rfl
  have me_Maker_net := He.meth_ok (c.fact 77) (x := "Maker") (m := "net")
  obtain ⟨_, _, _, _, _, _, F_Maker_net⟩ := fun_atM c 23 (x := "Maker") (m := "net") (q := "Maker.net") (st := sMnet) rfl me_Maker_net.kp
  have b_Maker_net := F_Maker_net.binds (ps := ["self", "outs"]) fun _ _ _ _ _ _ us hl => match us, hl with | [_, _], _ => rfl
  obtain ⟨_, _, _, _, _, _, F_look_net⟩ := fun_at c 0 (x := "look_net") (st := sLook) rfl (He.keep_ok (c.fact 17))
  have b_look_net := F_look_net.binds (ps := ["net"]) fun _ _ _ _ _ _ us hl => match us, hl with | [_], _ => rfl
  obtain ⟨_, _, _, _, _, _, F_depths⟩ := fun_at c 1 (x := "depths") (st := sDepths) rfl (He.keep_ok (c.fact 19))
  have b_depths := F_depths.binds (ps := ["net"]) fun _ _ _ _ _ _ us hl => match us, hl with | [_], _ => rfl
  obtain ⟨_, _, _, _, _, _, F_in_line⟩ := fun_at c 2 (x := "in_line") (st := sLine) rfl (He.keep_ok (c.fact 21))
  have b_in_line := F_in_line.binds (ps := ["maker", "some"]) fun _ _ _ _ _ _ us hl => match us, hl with | [_, _], _ => rfl
  obtain ⟨_, _, _, _, _, _, F_by_halves⟩ := fun_at c 3 (x := "by_halves") (st := sHalf) rfl (He.keep_ok (c.fact 23))
  have b_by_halves := F_by_halves.binds (ps := ["maker", "some"]) fun _ _ _ _ _ _ us hl => match us, hl with | [_, _], _ => rfl
  obtain ⟨_, _, _, _, _, _, F_by_strides⟩ := fun_at c 4 (x := "by_strides") (st := sStri) rfl (He.keep_ok (c.fact 25))
  have b_by_strides := F_by_strides.binds (ps := ["maker", "some"]) fun _ _ _ _ _ _ us hl => match us, hl with | [_, _], _ => rfl
  obtain ⟨_, _, _, _, _, _, F_up_and_down⟩ := fun_at c 5 (x := "up_and_down") (st := sUpd) rfl (He.keep_ok (c.fact 27))
  have b_up_and_down := F_up_and_down.binds (ps := ["maker", "some"]) fun _ _ _ _ _ _ us hl => match us, hl with | [_, _], _ => rfl
  obtain ⟨_, _, _, _, _, _, F_known⟩ := fun_at c 6 (x := "known") (st := sKnown) rfl (He.keep_ok (c.fact 29))
  have b_known := F_known.binds (ps := ["word", "wide"]) fun _ _ _ _ _ _ us hl => match us, hl with | [_, _], _ => rfl
  obtain ⟨_, _, _, _, _, _, F__law_cell⟩ := fun_at c 7 (x := "_law_cell") (st := sCell) rfl (He.keep_ok (c.fact 31))
  have b__law_cell := F__law_cell.binds (ps := ["_law_script", "_law_k"]) fun _ _ _ _ _ _ us hl => match us, hl with | [_, _], _ => rfl
  obtain ⟨_, _, _, _, _, _, F__law_mix⟩ := fun_at c 8 (x := "_law_mix") (st := sMix) rfl (He.keep_ok (c.fact 33))
  have b__law_mix := F__law_mix.binds (ps := ["_law_script", "_law_k"]) fun _ _ _ _ _ _ us hl => match us, hl with | [_, _], _ => rfl
  obtain ⟨_, _, _, _, _, _, F__law_net⟩ := fun_at c 9 (x := "_law_net") (st := sNet) rfl (He.keep_ok (c.fact 35))
  have b__law_net := F__law_net.binds (ps := ["_law_script", "_law_k", "_law_most"]) fun _ _ _ _ _ _ us hl => match us, hl with | [_, _, _], _ => rfl
  obtain ⟨_, _, _, _, _, _, F__law_cut⟩ := fun_at c 10 (x := "_law_cut") (st := sCut) rfl (He.keep_ok (c.fact 37))
  have b__law_cut := F__law_cut.binds (ps := ["_law_first", "_law_last", "_law_script", "_law_k", "_law_nodes", "_law_steps", "_law_wide"]) fun _ _ _ _ _ _ us hl => match us, hl with | [_, _, _, _, _, _, _], _ => rfl
  obtain ⟨_, _, _, _, _, _, F__law_right⟩ := fun_at c 11 (x := "_law_right") (st := sRight) rfl (He.keep_ok (c.fact 39))
  have b__law_right := F__law_right.binds (ps := ["_law_script", "_law_k", "_law_most"]) fun _ _ _ _ _ _ us hl => match us, hl with | [_, _, _], _ => rfl
  obtain ⟨_, _, _, _, _, _, F__law_refusal⟩ := fun_at c 12 (x := "_law_refusal") (st := sRefusal) rfl (He.keep_ok (c.fact 41))
  have b__law_refusal := F__law_refusal.binds (ps := ["_law_kept"]) fun _ _ _ _ _ _ us hl => match us, hl with | [_], _ => rfl
  obtain ⟨_, _, _, _, _, _, F__law_whole⟩ := fun_at c 13 (x := "_law_whole") (st := sWhole) rfl (He.keep_ok (c.fact 43))
  have b__law_whole := F__law_whole.binds (ps := ["_law_found"]) fun _ _ _ _ _ _ us hl => match us, hl with | [_], _ => rfl
  obtain ⟨_, _, _, _, _, _, F_tails⟩ := fun_at c 14 (x := "tails") (st := sTails) rfl (He.keep_ok (c.fact 45))
  have b_tails := F_tails.binds (ps := ["net"]) fun _ _ _ _ _ _ us hl => match us, hl with | [_], _ => rfl
  obtain ⟨_, _, _, _, _, _, F_rounds⟩ := fun_at c 15 (x := "rounds") (st := sRounds) rfl (He.keep_ok (c.fact 47))
  have b_rounds := F_rounds.binds (ps := ["net", "workers"]) fun _ _ _ _ _ _ us hl => match us, hl with | [_, _], _ => rfl
  obtain ⟨_, _, _, _, _, _, F_fewest_rounds⟩ := fun_at c 16 (x := "fewest_rounds") (st := sFew) rfl (He.keep_ok (c.fact 49))
  have b_fewest_rounds := F_fewest_rounds.binds (ps := ["net", "workers"]) fun _ _ _ _ _ _ us hl => match us, hl with | [_, _], _ => rfl
  obtain ⟨_, _, _, _, _, _, F__law_told⟩ := fun_at c 17 (x := "_law_told") (st := sTold) rfl (He.keep_ok (c.fact 51))
  have b__law_told := F__law_told.binds (ps := ["_law_way", "_law_net_here", "_law_workers"]) fun _ _ _ _ _ _ us hl => match us, hl with | [_, _, _], _ => rfl
  obtain ⟨_, _, _, _, _, _, F__law_behind⟩ := fun_at c 18 (x := "_law_behind") (st := sBehind) rfl (He.keep_ok (c.fact 53))
  have b__law_behind := F__law_behind.binds (ps := ["_law_net_here", "_law_node"]) fun _ _ _ _ _ _ us hl => match us, hl with | [_, _], _ => rfl
  obtain ⟨_, _, _, _, _, _, F__law_rounds⟩ := fun_at c 19 (x := "_law_rounds") (st := sLr) rfl (He.keep_ok (c.fact 55))
  have b__law_rounds := F__law_rounds.binds (ps := ["_law_net_here", "_law_workers"]) fun _ _ _ _ _ _ us hl => match us, hl with | [_, _], _ => rfl
  obtain ⟨kV, doc, pm, an, cdv, ct, F_law⟩ := fun_at c 20 (x := "law") (st := sLaw) rfl (He.keep_ok (c.fact 57))
  have b_law := F_law.binds (ps := ["_law_script"]) fun _ _ _ _ _ _ us hl => match us, hl with | [_], _ => rfl
  have e := hfa.symm.trans g_law
  cases e
  have key : ∀ base : Heap, FnOk P w K mg base (L2.CX P w) 25 (He.ga K "law") (PySem.W.fnOf "law" "law" (defArgs sLaw) (defBody sLaw) (defScope sLaw) .none kV doc pm an cdv ct) ["_law_script"] (spD K preLaw) := fun base => by
    have L1 := fn_look3 (Pg := P) (w := w) (base := base) F_look_net b_look_net g_look_net T x_BadNet m_MOST_WIDE m_MOST_STEPS
    have Ld := fn_depths (Pg := P) (w := w) (base := base) F_depths b_depths g_depths T L1
    have hM := (⟨cl_Maker, na_Maker_wide, na_Maker_steps⟩ : MkrF K (He.ga K "Maker"))
    have I1 := fn_init (mg := mg) (Pg := P) (w := w) (base := base) F_Maker___init__ hM
    have I2 := mt_step (Pg := P) (w := w) (base := base) F_Maker_step b_Maker_step me_Maker_step T hM
    have I3 := mt_net (Pg := P) (w := w) (base := base) F_Maker_net b_Maker_net me_Maker_net T hM
    have MM := (⟨⟨_, _, _, mk_Maker, I1, b_Maker___init__⟩, cl_Maker, na_Maker_wide, na_Maker_steps, g_Maker, by decide⟩ : MkM P w K mg base "Maker" (He.ga K "Maker") "wide" "steps" 1)
    have N1 := fn_line (Pg := P) (w := w) (base := base) F_in_line b_in_line g_in_line T hM I2
    have N2 := fn_half (Pg := P) (w := w) (base := base) F_by_halves b_by_halves g_by_halves T hM I2
    have N3 := fn_stri (Pg := P) (w := w) (base := base) F_by_strides b_by_strides g_by_strides T hM I2
    have N4 := fn_upd (Pg := P) (w := w) (base := base) F_up_and_down b_up_and_down g_up_and_down T hM I2
    have N5 := fn_known (Pg := P) (w := w) (base := base) F_known b_known g_known T hM x_BadKind m_MOST_WIDE MM I3 N1 N3 N2 N4
    have L7 := fn_cell (Pg := P) (w := w) (base := base) F__law_cell b__law_cell g__law_cell T
    have L8 := fn_mix (Pg := P) (w := w) (base := base) F__law_mix b__law_mix g__law_mix T L7
    have Ln := fn_net (Pg := P) (w := w) (base := base) F__law_net b__law_net g__law_net T L8
    have Lc := fn_cut (Pg := P) (w := w) (base := base) F__law_cut b__law_cut g__law_cut T L8
    have Lr := fn_right (Pg := P) (w := w) (base := base) F__law_right b__law_right g__law_right T L8 Lc
    have L9 := fn_refusal (Pg := P) (w := w) (base := base) F__law_refusal b__law_refusal g__law_refusal T
    have Lw := fn_whole (Pg := P) (w := w) (base := base) F__law_whole b__law_whole g__law_whole T
    have A1 := fn_tails (Pg := P) (w := w) (base := base) F_tails b_tails g_tails T
    have A2 := fn_rounds (Pg := P) (w := w) (base := base) F_rounds b_rounds g_rounds T x_BadKind L1 A1
    have A3 := fn_few (Pg := P) (w := w) (base := base) F_fewest_rounds b_fewest_rounds g_fewest_rounds T x_BadKind L1 Ld
    have A5 := fn_told (Pg := P) (w := w) (base := base) F__law_told b__law_told g__law_told ⟨g_SumError, R_BadKind, R_BadNet, h_BadKind_SumError, h_BadNet_SumError⟩ A2 A3 L9
    have A6 := fn_behind (Pg := P) (w := w) (base := base) F__law_behind b__law_behind g__law_behind T
    have A7 := fn_lr (Pg := P) (w := w) (base := base) F__law_rounds b__law_rounds g__law_rounds T A6
    exact fn_law (Pg := P) (w := w) (base := base) F_law b_law g_law T Ln Lr L8 N5 A5 A7 Lw
  exact ⟨_, fun s u => .of_eq rfl, fun base _ _ => key base⟩
end Wk
open PySem PySem.W PyProof.Rows
set_option maxHeartbeats 0 in
theorem PySem.Challenge.cw_sumspan_k42_whole_rounds_holds : PySem.Challenge.rw_sumspan_k42_whole_rounds.Holds := by
  w_on; o_law; k_head; (case hw => w_witness2)
  k_fill
  refine L2.walk_of (l := PySem.Challenge.rw_sumspan_k42_whole_rounds) (n := 63) (k := 25) (x := "_law_script") (CX := fun w => L2.CX PySem.Challenge.pw_sumspan_k42_whole_rounds w) (sp := fun w => DL.spD _ Wk.preLaw) rfl (by decide) rfl ⟨rfl, by decide, by decide⟩ (fun w h Y => PySem.W.kIn_of Y) ?F (fun w H a ns _ _ hS => Wk.spD_law ⟨ns, rfl, rfl⟩ hS) (fun _ _ _ _ _ z => Wk.cx_no z)
  case F =>
    intro w mg fa h KX G hmg
    exact Wk.all_mk KX G hmg (by show He.obsE _ _ _ = He.valE _; kernel_rfl) (by show List.all _ _ = true; kernel_rfl)


