import PyProof.Rows.All
import Wide.All
import OpenK.AllK
import Wide.FinOn
import HandS.ForMost
import HandS.ForExc
import HandS.RevRange
import HandS.IsInst
import HandS.ExcIs
import HandS.ExcValue
import HandS.Deep
import HandS.Walk
import HandS.Conv
import HandS.SetFor
import KE.DataMinMax
import HandS.Dict
import HandS.Style
import HandS.NoneIn
import HandS.Iter
import HandS.TupSets
import HandS.SortInts
import HandS.Remove
import HandS.Codes
import HandS.TupLen
import HandS.TupLe
import KE.KDictCopyH
import KE.KDictOf
import KE.SortData
import HandS.HeadHook1
import PySem.Challenge.RW_sumspan_k30_whole_least
set_option Elab.async false
set_option linter.all false
set_option maxRecDepth 100000
set_option maxHeartbeats 4000000
set_option pp.maxSteps 250
set_option Elab.async false
set_option linter.all false
set_option maxRecDepth 100000
set_option maxHeartbeats 4000000
/-! DLa: values as trees, owned cells, the state without a heap -/
namespace DL
open PySem PySem.Spec PyProof.Rows L2

/-- a value as a tree; scr: the script (read alone); exc: a caught error of the class at c; dct: a dict of number tuples to numbers that nobody writes any more; ky: a tuple of numbers that stands in the heap itself -/
inductive D where
  | non | bl (b : Bool) | int (i : Int) | str (s : Str)
  | lst (xs : List D) | tup (xs : List D)
  | scr (ns : List Int)
  | exc (c : Addr)
  | dct (kvs : List (List Key × Int))
  | ky (ns : List Int)

def ExH (c a : Addr) : HO := .ext fun h => ∃ (oe : Obj) (vs : Array Value), h.get? a = some oe ∧ Zc (.ref c) none oe ∧ oe.data = .fields vs

mutual
inductive Rep (K : PySem.W.Frag) (B : Hp) : V → D → Prop
  | non : Rep K B .non .non
  | bl (b : Bool) : Rep K B (.bl b) (.bl b)
  | int (i : Int) : Rep K B (.int i) (.int i)
  | str (x : Str) : Rep K B (.str x) (.str x)
  | lst {a : Addr} {vs : List V} {ds : List D} : B a = some (.lst vs) → Reps K B vs ds → Rep K B (.ref a) (.lst ds)
  | tup {a : Addr} {vs : List V} {ds : List D} : SqT K B a vs → Reps K B vs ds → Rep K B (.ref a) (.tup ds)
  | scr {a : Addr} {ns : List Int} : SqL K B a (ns.map V.int) → Rep K B (.ref a) (.scr ns)
  | exc {a c : Addr} : B a = some (ExH c a) → Rep K B (.ref a) (.exc c)
  | dct {a : Addr} {o : Obj} {kvs : List (List Key × Int)} : B a = some (.frz o (.dT (kvs.map fun p => (p.1, V.int p.2)))) → Rep K B (.ref a) (.dct kvs)
  | ky {a : Addr} {ns : List Int} : B a = some (.tup (ns.map V.int)) → Rep K B (.ref a) (.ky ns)
inductive Reps (K : PySem.W.Frag) (B : Hp) : List V → List D → Prop
  | nil : Reps K B [] []
  | cons {v : V} {vs : List V} {d : D} {ds : List D} : Rep K B v d → Reps K B vs ds → Reps K B (v :: vs) (d :: ds)
end

theorem same_rd {H H' : Hp} {a : Addr} {u : HO} (e : Same H H') (h : Rd H a u) : Rd H' a u := by
  rcases h with h | ⟨o, h⟩
  · exact Or.inl (e a _ h)
  · exact Or.inr ⟨o, e a _ h⟩
theorem same_t {K : PySem.W.Frag} {H H' : Hp} {a : Addr} {xs : List V} (e : Same H H') (h : SqT K H a xs) : SqT K H' a xs := by
  rcases h with h | h
  · exact Or.inl (same_rd e h)
  · exact Or.inr h
theorem same_upd' {H : Hp} {p : Addr} {o : HO} (h : H p = none) : Same H (upd H p o) := fun b x e => by
  rw [upd_ne (ne_of_none e h)]
  exact e
section
variable {K : PySem.W.Frag} {B B' : Hp}
mutual
theorem Rep.mono (e : Same B B') : ∀ {d : D} {v : V}, Rep K B v d → Rep K B' v d
  | .non, _, h => by cases h; exact .non
  | .bl b, _, h => by cases h; exact .bl b
  | .int i, _, h => by cases h; exact .int i
  | .str x, _, h => by cases h; exact .str x
  | .lst ds, _, h => by
    cases h with
    | lst ha hs => exact .lst (e _ _ ha) (Reps.mono e hs)
  | .tup ds, _, h => by
    cases h with
    | tup ha hs => exact .tup (same_t e ha) (Reps.mono e hs)
  | .scr ns, _, h => by
    cases h with
    | scr ha => exact .scr (e.seq ha)
  | .exc c, _, h => by
    cases h with
    | exc ha => exact .exc (e _ _ ha)
  | .dct kvs, _, h => by
    cases h with
    | dct ha => exact .dct (e _ _ ha)
  | .ky ns, _, h => by
    cases h with
    | ky ha => exact .ky (e _ _ ha)
theorem Reps.mono (e : Same B B') : ∀ {ds : List D} {vs : List V}, Reps K B vs ds → Reps K B' vs ds
  | [], _, h => by cases h; exact .nil
  | d :: ds, _, h => by
    cases h with
    | cons h1 h2 => exact .cons (Rep.mono e h1) (Reps.mono e h2)
end
theorem Reps.length : ∀ {ds : List D} {vs : List V}, Reps K B vs ds → vs.length = ds.length
  | [], _, h => by cases h; rfl
  | d :: ds, _, h => by
    cases h with
    | cons h1 h2 => rw [List.length_cons, List.length_cons, h2.length]
theorem Reps.get : ∀ {ds : List D} {vs : List V} {i : Nat} {d : D}, Reps K B vs ds → ds[i]? = some d → ∃ v, vs[i]? = some v ∧ Rep K B v d
  | [], _, i, d, h, e => by simp at e
  | d :: ds, _, 0, d', h, e => by
    cases h with
    | cons h1 h2 => simp at e; subst e; exact ⟨_, rfl, h1⟩
  | d :: ds, _, i + 1, d', h, e => by
    cases h with
    | cons h1 h2 =>
      obtain ⟨v, a, b⟩ := Reps.get (i := i) h2 (by simpa using e)
      exact ⟨v, by simpa using a, b⟩
theorem Reps.getV : ∀ {ds : List D} {vs : List V} {i : Nat} {v : V}, Reps K B vs ds → vs[i]? = some v → ∃ d, ds[i]? = some d ∧ Rep K B v d
  | [], _, i, d, h, e => by cases h; simp at e
  | d :: ds, _, 0, d', h, e => by
    cases h with
    | cons h1 h2 => simp at e; subst e; exact ⟨_, rfl, h1⟩
  | d :: ds, _, i + 1, d', h, e => by
    cases h with
    | cons h1 h2 =>
      obtain ⟨v, a, b⟩ := Reps.getV (i := i) h2 (by simpa using e)
      exact ⟨v, by simpa using a, b⟩
theorem Reps.append : ∀ {ds es : List D} {vs us : List V}, Reps K B vs ds → Reps K B us es → Reps K B (vs ++ us) (ds ++ es)
  | [], _, _, _, h, k => by cases h; exact k
  | d :: ds, _, _, _, h, k => by
    cases h with
    | cons h1 h2 => exact .cons h1 (Reps.append h2 k)
theorem Reps.set {v : V} {d : D} (r : Rep K B v d) : ∀ {ds : List D} {vs : List V} (i : Nat), Reps K B vs ds → Reps K B (vs.set i v) (ds.set i d)
  | [], _, _, h => by cases h; exact .nil
  | d :: ds, _, 0, h => by
    cases h with
    | cons h1 h2 => exact .cons r h2
  | d :: ds, _, i + 1, h => by
    cases h with
    | cons h1 h2 => exact .cons h1 (Reps.set r i h2)
theorem Reps.take : ∀ {ds : List D} {vs : List V} (i : Nat), Reps K B vs ds → Reps K B (vs.take i) (ds.take i)
  | [], _, i, h => by cases h; simp; exact .nil
  | d :: ds, _, 0, h => by simp; exact .nil
  | d :: ds, _, i + 1, h => by
    cases h with
    | cons h1 h2 => exact .cons h1 (Reps.take i h2)
theorem Reps.drop : ∀ {ds : List D} {vs : List V} (i : Nat), Reps K B vs ds → Reps K B (vs.drop i) (ds.drop i)
  | [], _, i, h => by cases h; simp; exact .nil
  | d :: ds, _, 0, h => h
  | d :: ds, _, i + 1, h => by
    cases h with
    | cons h1 h2 => exact Reps.drop i h2
theorem Reps.reverse {ds : List D} : ∀ {vs : List V}, Reps K B vs ds → Reps K B vs.reverse ds.reverse := by
  induction ds with
  | nil => intro vs h; cases h; exact .nil
  | cons d ds ih =>
    intro vs h
    cases h with
    | cons h1 h2 =>
      rw [List.reverse_cons, List.reverse_cons]
      exact Reps.append (ih h2) (.cons h1 .nil)
theorem Reps.eraseIdx : ∀ {ds : List D} {vs : List V} (i : Nat), Reps K B vs ds → Reps K B (vs.eraseIdx i) (ds.eraseIdx i)
  | [], _, i, h => by cases h; exact .nil
  | d :: ds, _, 0, h => by
    cases h with
    | cons h1 h2 => exact h2
  | d :: ds, _, i + 1, h => by
    cases h with
    | cons h1 h2 => exact .cons h1 (Reps.eraseIdx i h2)
theorem Reps.rep {ds : List D} {vs : List V} (h : Reps K B vs ds) : ∀ k : Nat, Reps K B (List.replicate k vs).flatten (List.replicate k ds).flatten
  | 0 => .nil
  | k + 1 => by
    rw [List.replicate_succ, List.replicate_succ, List.flatten_cons, List.flatten_cons]
    exact Reps.append h (Reps.rep h k)
/-- a list of ints -/
theorem Reps.ints {ns : List Int} : ∀ {vs : List V}, Reps K B vs (ns.map D.int) → vs = ns.map V.int := by
  induction ns with
  | nil => intro vs h; cases h; rfl
  | cons n ns ih =>
    intro vs h
    cases h with
    | cons h1 h2 =>
      cases h1
      rw [ih h2]
      rfl
theorem Reps.bls {ns : List Bool} : ∀ {vs : List V}, Reps K B vs (ns.map D.bl) → vs = ns.map V.bl := by
  induction ns with
  | nil => intro vs h; cases h; rfl
  | cons n ns ih =>
    intro vs h
    cases h with
    | cons h1 h2 =>
      cases h1
      rw [ih h2]
      rfl
theorem Reps.strs {ns : List Str} : ∀ {vs : List V}, Reps K B vs (ns.map D.str) → vs = ns.map V.str := by
  induction ns with
  | nil => intro vs h; cases h; rfl
  | cons n ns ih =>
    intro vs h
    cases h with
    | cons h1 h2 =>
      cases h1
      rw [ih h2]
      rfl
theorem Reps.of_ints : ∀ ns : List Int, Reps K B (ns.map V.int) (ns.map D.int)
  | [] => .nil
  | n :: ns => .cons (.int n) (Reps.of_ints ns)
theorem Reps.of_bls : ∀ ns : List Bool, Reps K B (ns.map V.bl) (ns.map D.bl)
  | [] => .nil
  | n :: ns => .cons (.bl n) (Reps.of_bls ns)
theorem Reps.of_strs : ∀ ns : List Str, Reps K B (ns.map V.str) (ns.map D.str)
  | [] => .nil
  | n :: ns => .cons (.str n) (Reps.of_strs ns)

mutual
/-- no list within: what such a value leans on is none of the cells -/
def D.nol : D → Bool
  | .non => true
  | .bl _ => true
  | .int _ => true
  | .str _ => true
  | .tup xs => D.nols xs
  | .lst _ => false
  | .scr _ => false
  | .exc _ => false
  | .dct _ => false
  | .ky _ => false
def D.nols : List D → Bool
  | [] => true
  | x :: xs => D.nol x && D.nols xs
end
theorem sqT_out {p : Addr} {us : List V} {a : Addr} {xs : List V} (h : SqT K (upd B p (.lst us)) a xs) : SqT K B a xs := by
  rcases h with (h | ⟨o, h⟩) | h
  · by_cases e : a = p
    · rw [e, upd_same] at h; cases h
    · rw [upd_ne e] at h; exact .inl (.inl h)
  · by_cases e : a = p
    · rw [e, upd_same] at h; cases h
    · rw [upd_ne e] at h; exact .inl (.inr ⟨o, h⟩)
  · exact .inr h
mutual
theorem Rep.out {p : Addr} {us : List V} : ∀ {d : D} {v : V}, D.nol d = true → Rep K (upd B p (.lst us)) v d → Rep K B v d
  | .non, _, _, h => by cases h; exact .non
  | .bl b, _, _, h => by cases h; exact .bl b
  | .int i, _, _, h => by cases h; exact .int i
  | .str x, _, _, h => by cases h; exact .str x
  | .lst ds, _, n, h => by simp [D.nol] at n
  | .tup ds, _, n, h => by
    cases h with
    | tup ha hs => exact .tup (sqT_out ha) (Reps.out (by simpa [D.nol] using n) hs)
  | .scr ns, _, n, h => by simp [D.nol] at n
  | .exc c, _, n, h => by simp [D.nol] at n
  | .dct _, _, n, h => by simp [D.nol] at n
  | .ky _, _, n, h => by simp [D.nol] at n
theorem Reps.out {p : Addr} {us : List V} : ∀ {ds : List D} {vs : List V}, D.nols ds = true → Reps K (upd B p (.lst us)) vs ds → Reps K B vs ds
  | [], _, _, h => by cases h; exact .nil
  | d :: ds, _, n, h => by
    cases h with
    | cons h1 h2 =>
      have n' : (D.nol d && D.nols ds) = true := by simpa [D.nols] using n
      rw [Bool.and_eq_true] at n'
      exact .cons (Rep.out n'.1 h1) (Reps.out n'.2 h2)
end
end

/-! ### the state -/
/-- a slot: nothing known; a value; a reference to a cell -/
inductive Sl where
  | u | d (x : D) | c (j : Nat)
/-- a cell: a list, a dict with tuples as keys, an instance, nothing known -/
inductive Cl where
  | lst (xs : List D) | dic (kvs : List (List Key × D)) | ins (C : Addr) (fs : List (Str × Sl)) | dead
structure A where
  sl : List Sl
  cl : List Cl

def SlOk (K : PySem.W.Frag) (B : Hp) (as : List Addr) (o : Option V) : Sl → Prop
  | .u => True
  | .d x => ∃ v, o = some v ∧ Rep K B v x
  | .c j => ∃ a, as[j]? = some a ∧ o = some (.ref a)
def ClOk (K : PySem.W.Frag) (B : Hp) (as : List Addr) (H : Hp) (a : Addr) : Cl → Prop
  | .lst ds => ∃ vs, H a = some (.lst vs) ∧ Reps K B vs ds
  | .dic kvs => ∃ kvs', H a = some (.dT kvs') ∧ kvs'.map (·.1) = kvs.map (·.1) ∧ Reps K B (kvs'.map (·.2)) (kvs.map (·.2))
  | .ins C fs => ∃ dx fs', H a = some (.ins C dx fs') ∧ fs'.map (·.1) = fs.map (·.1) ∧ ∀ (i : Nat) (x : Sl), (fs.map (·.2))[i]? = some x → SlOk K B as (fs'.map (·.2))[i]? x
  | .dead => True
def CsOk (K : PySem.W.Frag) (B : Hp) (as : List Addr) (H : Hp) (cl : List Cl) : Prop :=
  as.length = cl.length ∧ ∀ (j : Nat) (a : Addr) (c : Cl), as[j]? = some a → cl[j]? = some c → ClOk K B as H a c
def Cl.live : Cl → Prop
  | .dead => False
  | _ => True

/-- from (B, H) to (B', H'): only the cells change; what is new in B' was a cell or is new in H -/
structure Ext (as : List Addr) (B H : Hp) (as' : List Addr) (B' H' : Hp) : Prop where
  b : Same B B'
  k : ∀ a o, a ∉ as → H a = some o → H' a = some o
  n : ∀ a, B a = none → H a ≠ none → a ∉ as → B' a = none
  l : ∃ ns, as' = as ++ ns ∧ ∀ a ∈ ns, H a = none
  t : ∀ a, H a ≠ none → H' a ≠ none
theorem Ext.refl (as : List Addr) (B H : Hp) : Ext as B H as B H :=
  ⟨fun _ _ e => e, fun _ _ _ e => e, fun _ e _ _ => e, ⟨[], by simp, fun _ h => nomatch h⟩, fun _ e => e⟩
theorem Ext.trans {as as1 as2 : List Addr} {B H B1 H1 B2 H2 : Hp} (x : Ext as B H as1 B1 H1) (y : Ext as1 B1 H1 as2 B2 H2) : Ext as B H as2 B2 H2 := by
  obtain ⟨ns, rfl, hn⟩ := x.l
  have out : ∀ a, H a ≠ none → a ∉ as → a ∉ as ++ ns := fun a h ha hm => by
    rcases List.mem_append.mp hm with hm | hm
    · exact ha hm
    · exact h (hn a hm)
  refine ⟨x.b.trans y.b, fun a o ha e => y.k a o (out a (by rw [e]; exact fun z => nomatch z) ha) (x.k a o ha e), fun a e h ha => y.n a (x.n a e h ha) (x.t a h) (out a h ha), ?_, fun a h => y.t a (x.t a h)⟩
  obtain ⟨ms, rfl, hm⟩ := y.l
  refine ⟨ns ++ ms, by rw [List.append_assoc], fun a ha => ?_⟩
  rcases List.mem_append.mp ha with ha | ha
  · exact hn a ha
  · have q := hm a ha
    cases e : H a with
    | none => rfl
    | some o => exact absurd q (x.t a (by rw [e]; exact fun z => nomatch z))

structure Ok (K : PySem.W.Frag) (as : List Addr) (B H : Hp) (σ : L2.St) (s : A) : Prop where
  sm : Same B H
  nd : as.Nodup
  ht : ∀ a ∈ as, H a ≠ none
  nb : ∀ (j : Nat) (a : Addr) (c : Cl), as[j]? = some a → s.cl[j]? = some c → c.live → B a = none
  cs : CsOk K B as H s.cl
  ln : σ.length = s.sl.length
  sl : ∀ (i : Nat) (x : Sl), s.sl[i]? = some x → SlOk K B as (σ[i]?.join) x

section
variable {K : PySem.W.Frag} {as as' : List Addr} {B B' H H' : Hp} {σ : L2.St} {s s' : A}
theorem SlOk.mono {o : Option V} {x : Sl} (e : Same B B') (l : ∃ ns, as' = as ++ ns) (h : SlOk K B as o x) : SlOk K B' as' o x := by
  cases x with
  | u => exact True.intro
  | d x =>
    obtain ⟨v, a, r⟩ := h
    exact ⟨v, a, r.mono e⟩
  | c j =>
    obtain ⟨a, h1, h2⟩ := h
    obtain ⟨ns, rfl⟩ := l
    exact ⟨a, by rw [List.getElem?_append_left (List.getElem?_eq_some_iff.mp h1).1]; exact h1, h2⟩
theorem ClOk.mono {a : Addr} {c : Cl} (e : Same B B') (l : ∃ ns, as' = as ++ ns) (k : c.live → ∀ o, H a = some o → H' a = some o) (h : ClOk K B as H a c) : ClOk K B' as' H' a c := by
  cases c with
  | lst ds =>
    obtain ⟨vs, h1, h2⟩ := h
    exact ⟨vs, k True.intro _ h1, h2.mono e⟩
  | dic kvs =>
    obtain ⟨kvs', h1, h2, h3⟩ := h
    exact ⟨kvs', k True.intro _ h1, h2, h3.mono e⟩
  | ins C fs =>
    obtain ⟨dx, fs', h1, h2, h3⟩ := h
    exact ⟨dx, fs', k True.intro _ h1, h2, fun i x hx => (h3 i x hx).mono e l⟩
  | dead => exact True.intro
theorem ne_none {α : Type} {o : Option α} {x : α} (h : o = some x) : o ≠ none := by rw [h]; exact fun z => nomatch z
/-- a new thing, known for good -/
theorem Ok.new {p : Addr} {o : HO} (h : Ok K as B H σ s) (hp : H p = none) : Ok K as (upd B p o) (upd H p o) σ s ∧ Ext as B H as (upd B p o) (upd H p o) := by
  have hB : B p = none := h.sm.free hp
  have ne : ∀ a, H a ≠ none → a ≠ p := fun a ha e => ha (by rw [e]; exact hp)
  have sB : Same B (upd B p o) := same_upd' hB
  have sH : Same H (upd H p o) := same_upd' hp
  refine ⟨⟨fun a u e => ?_, h.nd, fun a ha => ?_, fun j a c h1 h2 h3 => ?_, ⟨h.cs.1, fun j a c h1 h2 => (h.cs.2 j a c h1 h2).mono sB ⟨[], by simp⟩ fun _ u e => sH _ _ e⟩, h.ln, fun i x hx => (h.sl i x hx).mono sB ⟨[], by simp⟩⟩,
    ⟨sB, fun a u _ e => sH _ _ e, fun a e1 e2 _ => by rw [upd_ne (ne a e2)]; exact e1, ⟨[], by simp, fun _ z => nomatch z⟩, fun a ha => by rw [upd_ne (ne a ha)]; exact ha⟩⟩
  · by_cases e1 : a = p
    · rw [e1, upd_same] at e ⊢; exact e
    · rw [upd_ne e1] at e ⊢; exact h.sm _ _ e
  · rw [upd_ne (ne a (h.ht a ha))]; exact h.ht a ha
  · rw [upd_ne (ne a (h.ht a (List.mem_of_getElem? h1)))]; exact h.nb j a c h1 h2 h3
/-- a new thing that the state does not speak of -/
theorem Ok.junk {p : Addr} {o : HO} (h : Ok K as B H σ s) (hp : H p = none) : Ok K as B (upd H p o) σ s ∧ Ext as B H as B (upd H p o) := by
  have ne : ∀ a, H a ≠ none → a ≠ p := fun a ha e => ha (by rw [e]; exact hp)
  have sH : Same H (upd H p o) := same_upd' hp
  exact ⟨⟨h.sm.trans sH, h.nd, fun a ha => by rw [upd_ne (ne a (h.ht a ha))]; exact h.ht a ha, h.nb, ⟨h.cs.1, fun j a c h1 h2 => (h.cs.2 j a c h1 h2).mono (fun _ _ e => e) ⟨[], by simp⟩ fun _ u e => sH _ _ e⟩, h.ln, h.sl⟩,
    ⟨fun _ _ e => e, fun a u _ e => sH _ _ e, fun a e1 _ _ => e1, ⟨[], by simp, fun _ z => nomatch z⟩, fun a ha => by rw [upd_ne (ne a ha)]; exact ha⟩⟩
/-- a new cell -/
theorem Ok.cell {p : Addr} {o : HO} {c : Cl} (h : Ok K as B H σ s) (hp : H p = none) (hc : ClOk K B (as ++ [p]) (upd H p o) p c) : Ok K (as ++ [p]) B (upd H p o) σ ⟨s.sl, s.cl ++ [c]⟩ ∧ Ext as B H (as ++ [p]) B (upd H p o) := by
  have hB : B p = none := h.sm.free hp
  have ne : ∀ a, H a ≠ none → a ≠ p := fun a ha e => ha (by rw [e]; exact hp)
  have sH : Same H (upd H p o) := same_upd' hp
  have hl := h.cs.1
  have split : ∀ {j : Nat} {a : Addr} {d : Cl}, (as ++ [p])[j]? = some a → (s.cl ++ [c])[j]? = some d → (as[j]? = some a ∧ s.cl[j]? = some d) ∨ (a = p ∧ d = c) := fun {j a d} h1 h2 => by
    by_cases hj : j < as.length
    · rw [List.getElem?_append_left hj] at h1
      rw [List.getElem?_append_left (by omega)] at h2
      exact .inl ⟨h1, h2⟩
    · rw [List.getElem?_append_right (by omega)] at h1
      rw [List.getElem?_append_right (by omega)] at h2
      rw [hl] at h1
      cases e : j - s.cl.length with
      | zero => rw [e] at h1 h2; simp at h1 h2; exact .inr ⟨h1.symm, h2.symm⟩
      | succ n => rw [e] at h1; simp at h1
  refine ⟨⟨h.sm.trans sH, ?_, fun a ha => ?_, fun j a d h1 h2 h3 => ?_, ⟨by simp [hl], fun j a d h1 h2 => ?_⟩, h.ln, fun i x hx => (h.sl i x hx).mono (fun _ _ e => e) ⟨[p], rfl⟩⟩,
    ⟨fun _ _ e => e, fun a u _ e => sH _ _ e, fun a e1 _ _ => e1, ⟨[p], rfl, fun a ha => by rw [List.mem_singleton.mp ha]; exact hp⟩, fun a ha => by rw [upd_ne (ne a ha)]; exact ha⟩⟩
  · rw [List.nodup_append]
    refine ⟨h.nd, by simp, fun a ha b hb => ?_⟩
    rw [List.mem_singleton.mp hb]
    exact ne a (h.ht a ha)
  · rcases List.mem_append.mp ha with ha | ha
    · rw [upd_ne (ne a (h.ht a ha))]; exact h.ht a ha
    · rw [List.mem_singleton.mp ha, upd_same]; exact fun z => nomatch z
  · rcases split h1 h2 with ⟨h1, h2⟩ | ⟨rfl, rfl⟩
    · exact h.nb j a d h1 h2 h3
    · exact hB
  · rcases split h1 h2 with ⟨h1, h2⟩ | ⟨rfl, rfl⟩
    · exact (h.cs.2 j a d h1 h2).mono (fun _ _ e => e) ⟨[p], rfl⟩ fun _ u e => sH _ _ e
    · exact hc
/-- a cell is written -/
theorem Ok.wr {a : Addr} {j : Nat} {c c' : Cl} {o : HO} (h : Ok K as B H σ s) (h1 : as[j]? = some a) (h2 : s.cl[j]? = some c) (h3 : c.live) (hc : ClOk K B as (upd H a o) a c') : Ok K as B (upd H a o) σ ⟨s.sl, s.cl.set j c'⟩ ∧ Ext as B H as B (upd H a o) := by
  have hB := h.nb j a c h1 h2 h3
  have ha := List.mem_of_getElem? h1
  have hj := (List.getElem?_eq_some_iff.mp h1).1
  have hl := h.cs.1
  have ix : ∀ {i : Nat}, as[i]? = some a → i = j := fun {i} e => nd_ix h.nd e h1
  refine ⟨⟨fun b u e => ?_, h.nd, fun b hb => ?_, fun i b d e1 e2 e3 => ?_, ⟨by simp [hl], fun i b d e1 e2 => ?_⟩, h.ln, h.sl⟩,
    ⟨fun _ _ e => e, fun b u hb e => ?_, fun b e1 _ _ => e1, ⟨[], by simp, fun _ z => nomatch z⟩, fun b hb => ?_⟩⟩
  · rw [upd_ne (ne_of_none e hB)]; exact h.sm _ _ e
  · by_cases e : b = a
    · rw [e, upd_same]; exact fun z => nomatch z
    · rw [upd_ne e]; exact h.ht b hb
  · by_cases e : i = j
    · subst e
      rw [h1] at e1; cases e1
      exact hB
    · dsimp only at e2
      rw [List.getElem?_set_ne (Ne.symm e)] at e2
      exact h.nb i b d e1 e2 e3
  · by_cases e : i = j
    · subst e
      rw [h1] at e1; cases e1
      dsimp only at e2
      rw [List.getElem?_set_self (by omega)] at e2; cases e2
      exact hc
    · dsimp only at e2
      rw [List.getElem?_set_ne (Ne.symm e)] at e2
      refine (h.cs.2 i b d e1 e2).mono (fun _ _ e => e) ⟨[], by simp⟩ fun _ u q => ?_
      rw [upd_ne (fun z => e (ix (by rw [← z]; exact e1)))]
      exact q
  · rw [upd_ne (fun z => hb (by rw [z]; exact ha))]; exact e
  · by_cases e : b = a
    · rw [e, upd_same]; exact fun z => nomatch z
    · rw [upd_ne e]; exact hb
/-- a cell is known for good from now on -/
theorem Ok.freeze {a : Addr} {j : Nat} {c : Cl} {o : HO} (h : Ok K as B H σ s) (h1 : as[j]? = some a) (h2 : s.cl[j]? = some c) (h3 : c.live) (ho : H a = some o) : Ok K as (upd B a o) H σ ⟨s.sl, s.cl.set j .dead⟩ ∧ Ext as B H as (upd B a o) H := by
  have hB := h.nb j a c h1 h2 h3
  have ha := List.mem_of_getElem? h1
  have hj := (List.getElem?_eq_some_iff.mp h1).1
  have hl := h.cs.1
  have sB : Same B (upd B a o) := same_upd' hB
  refine ⟨⟨fun b u e => ?_, h.nd, h.ht, fun i b d e1 e2 e3 => ?_, ⟨by simp [hl], fun i b d e1 e2 => ?_⟩, h.ln, fun i x hx => (h.sl i x hx).mono sB ⟨[], by simp⟩⟩,
    ⟨sB, fun b u hb e => e, fun b e1 _ e3 => by rw [upd_ne (fun z => e3 (by rw [z]; exact ha))]; exact e1, ⟨[], by simp, fun _ z => nomatch z⟩, fun b hb => hb⟩⟩
  · by_cases e1 : b = a
    · rw [e1, upd_same] at e; cases e; rw [e1]; exact ho
    · rw [upd_ne e1] at e; exact h.sm _ _ e
  · by_cases e : i = j
    · subst e
      dsimp only at e2
      rw [List.getElem?_set_self (by omega)] at e2; cases e2
      exact e3.elim
    · dsimp only at e2
      rw [List.getElem?_set_ne (Ne.symm e)] at e2
      rw [upd_ne (fun z => e (nd_ix h.nd e1 (by rw [z]; exact h1)))]
      exact h.nb i b d e1 e2 e3
  · by_cases e : i = j
    · subst e
      dsimp only at e2
      rw [List.getElem?_set_self (by omega)] at e2; cases e2
      exact True.intro
    · dsimp only at e2
      rw [List.getElem?_set_ne (Ne.symm e)] at e2
      exact (h.cs.2 i b d e1 e2).mono sB ⟨[], by simp⟩ fun _ u q => q
theorem join_set {i k : Nat} {o : Option V} (σ : L2.St) (hi : i < σ.length) : ((σ.set i o)[k]?).join = if k = i then o else (σ[k]?).join := by
  by_cases e : k = i
  · subst e
    rw [if_pos rfl, List.getElem?_set_self hi]
    rfl
  · rw [if_neg e, List.getElem?_set_ne (Ne.symm e)]
/-- a slot is stored -/
theorem Ok.store {i : Nat} {o : Option V} {x : Sl} (h : Ok K as B H σ s) (hi : i < s.sl.length) (hx : SlOk K B as o x) : Ok K as B H (σ.set i o) ⟨s.sl.set i x, s.cl⟩ where
  sm := h.sm
  nd := h.nd
  ht := h.ht
  nb := h.nb
  cs := h.cs
  ln := by simp [h.ln]
  sl := fun k y hy => by
    rw [join_set σ (by rw [h.ln]; exact hi)]
    by_cases e : k = i
    · subst e
      dsimp only at hy
      rw [List.getElem?_set_self hi] at hy; cases hy
      rw [if_pos rfl]
      exact hx
    · dsimp only at hy
      rw [List.getElem?_set_ne (Ne.symm e)] at hy
      rw [if_neg e]
      exact h.sl k y hy
/-- a slot told otherwise -/
theorem Ok.tell {i : Nat} {x : Sl} (h : Ok K as B H σ s) (hx : SlOk K B as (σ[i]?.join) x) : Ok K as B H σ ⟨s.sl.set i x, s.cl⟩ where
  sm := h.sm
  nd := h.nd
  ht := h.ht
  nb := h.nb
  cs := h.cs
  ln := by simp [h.ln]
  sl := fun k y hy => by
    by_cases e : k = i
    · subst e
      dsimp only at hy
      rw [List.getElem?_set] at hy
      split at hy
      · split at hy
        · cases hy; exact hx
        · cases hy
      · exact absurd rfl ‹_›
    · dsimp only at hy
      rw [List.getElem?_set_ne (Ne.symm e)] at hy
      exact h.sl k y hy
/-- less is known of the slots -/
inductive Les : List Sl → List Sl → Prop
  | nil : Les [] []
  | u {x : Sl} {l m : List Sl} : Les l m → Les (x :: l) (.u :: m)
  | eq {x : Sl} {l m : List Sl} : Les l m → Les (x :: l) (x :: m)
theorem Les.refl : ∀ l : List Sl, Les l l
  | [] => .nil
  | _ :: l => .eq (Les.refl l)
theorem Les.length : ∀ {l m : List Sl}, Les l m → l.length = m.length
  | _, _, .nil => rfl
  | _, _, .u h => by rw [List.length_cons, List.length_cons, h.length]
  | _, _, .eq h => by rw [List.length_cons, List.length_cons, h.length]
theorem Les.get : ∀ {l m : List Sl} {i : Nat} {x : Sl}, Les l m → m[i]? = some x → x = .u ∨ l[i]? = some x
  | _, _, _, _, .nil, e => by simp at e
  | _, _, 0, _, .u h, e => by simp at e; exact .inl e.symm
  | _, _, 0, _, .eq h, e => .inr e
  | _, _, i + 1, _, .u h, e => by simpa using Les.get (i := i) h (by simpa using e)
  | _, _, i + 1, _, .eq h, e => by simpa using Les.get (i := i) h (by simpa using e)
theorem Ok.less {l : List Sl} (h : Ok K as B H σ s) (e : Les s.sl l) : Ok K as B H σ ⟨l, s.cl⟩ where
  sm := h.sm
  nd := h.nd
  ht := h.ht
  nb := h.nb
  cs := h.cs
  ln := by rw [h.ln]; exact e.length
  sl := fun k y hy => by
    rcases e.get hy with rfl | q
    · exact True.intro
    · exact h.sl k y q
end
end DL
set_option Elab.async false
set_option linter.all false
set_option maxRecDepth 100000
set_option maxHeartbeats 4000000
set_option autoImplicit true
/-! DLb: judgements over the state: expressions -/
namespace DL
open PySem PySem.Spec PyProof.Rows L2

inductive Res where
  | ok (d : D) | er (c : Addr)

/-! ### the widest readings -/
def wE (X : Cx) (e : Expr) : TE := fun σ H Q => ∀ (pins : List (Addr × Obj)) (s : Shared), Inv X pins σ H s → wpAny (model X.prog X.w) X.A (eval e X.env) (EP X pins σ Q) X.xe s
theorem pe_w {X : Cx} {e : Expr} : PE X e (wE X e) := ⟨fun pins s σ H Q I h => h pins s I⟩
theorem wE_of {X : Cx} {e : Expr} {te : TE} {σ : L2.St} {H : Hp} {Q : VK} (h : PE X e te) (q : te σ H Q) : wE X e σ H Q := fun pins s I => h.run pins s σ H Q I q
def wT (X : Cx) (e : Expr) : TT := fun σ H Q => ∀ (pins : List (Addr × Obj)) (s : Shared), Inv X pins σ H s → wpAny (model X.prog X.w) X.A (isTrue e X.env (eval e X.env)) (TP X pins σ Q) X.xe s
theorem pt_w {X : Cx} {e : Expr} : PT X e (wT X e) := ⟨fun pins s σ H Q I h => h pins s I⟩
theorem wT_of {X : Cx} {e : Expr} {te : TT} {σ : L2.St} {H : Hp} {Q : Bool → Hp → Prop} (h : PT X e te) (q : te σ H Q) : wT X e σ H Q := fun pins s I => h.run pins s σ H Q I q
def wW (X : Cx) (e : Expr) : TT := fun σ H Q => ∀ (whole : Sem Value) (pins : List (Addr × Obj)) (s : Shared), Inv X pins σ H s → wpAny (model X.prog X.w) X.A (isTrue e X.env whole) (TP X pins σ Q) X.xe s
theorem pw_w {X : Cx} {e : Expr} : PW X e (wW X e) := ⟨fun wh pins s σ H Q I h => h wh pins s I⟩
theorem wW_of {X : Cx} {e : Expr} {te : TT} {σ : L2.St} {H : Hp} {Q : Bool → Hp → Prop} (h : PW X e te) (q : te σ H Q) : wW X e σ H Q := fun wh pins s I => h.run wh pins s σ H Q I q
def wA (X : Cx) (es : List Expr) : TA := fun σ H Q => ∀ (pos : Pos) (pins : List (Addr × Obj)) (s : Shared), Inv X pins σ H s → wpAny (model X.prog X.w) X.A (spliced (backTo pos (starEach es X.env))) (AP X pins σ Q) X.xe s
theorem pa_w {X : Cx} {es : List Expr} : PA X es (wA X es) := ⟨fun pos pins s σ H Q I h => h pos pins s I⟩
theorem wA_of {X : Cx} {es : List Expr} {te : TA} {σ : L2.St} {H : Hp} {Q : List V → Hp → Prop} (h : PA X es te) (q : te σ H Q) : wA X es σ H Q := fun pos pins s I => h.run pos pins s σ H Q I q
def wO (X : Cx) (e : Option Expr) : TO := fun σ H Q => ∀ (pins : List (Addr × Obj)) (s : Shared), Inv X pins σ H s → wpAny (model X.prog X.w) X.A (evalPart e X.env) (fun u s' => ∃ o H', Inv X pins σ H' s' ∧ IsPart u o ∧ Q o H') X.xe s
theorem po_w {X : Cx} {e : Option Expr} : PO X e (wO X e) := ⟨fun pins s σ H Q I h => h pins s I⟩
theorem wO_of {X : Cx} {e : Option Expr} {te : TO} {σ : L2.St} {H : Hp} {Q : Option Int → Hp → Prop} (h : PO X e te) (q : te σ H Q) : wO X e σ H Q := fun pins s I => h.run pins s σ H Q I q

/-! ### what is told of an expression -/
def OutE (K : PySem.W.Frag) (W : WX) (as : List Addr) (B H : Hp) (σ : L2.St) (s' : A) (Q : VK) : Res → Prop
  | .ok d => ∀ v B' H', Ext as B H as B' H' → Ok K as B' H' σ s' → Rep K B' v d → Q v H'
  | .er c => ∀ B' H', Ext as B H as B' H' → Ok K as B' H' σ s' → W (.ref c) none σ H'
/-- e comes to r, the state behind it is s' -/
def JE (X : Cx) (W : WX) (e : Expr) (s : A) (r : Res) (s' : A) : Prop := ∀ as B H σ, Ok X.K as B H σ s → ∀ Q : VK, OutE X.K W as B H σ s' Q r → wE X e σ H Q
/-- e comes to a new list -/
def JF (X : Cx) (e : Expr) (s : A) (xs : List D) (s' : A) : Prop := ∀ as B H σ, Ok X.K as B H σ s → ∀ Q : VK,
  (∀ p vs B' H', Ext as B H as B' H' → Ok X.K as B' H' σ s' → H p = none → B' p = none → H' p = some (.lst vs) → Reps X.K B' vs xs → Q (.ref p) H') → wE X e σ H Q
/-- a test comes to b -/
def JT (X : Cx) (e : Expr) (s : A) (b : Bool) : Prop := ∀ as B H σ, Ok X.K as B H σ s → ∀ Q : Bool → Hp → Prop, (∀ B' H', Ext as B H as B' H' → Ok X.K as B' H' σ s → Q b H') → wT X e σ H Q
def JW (X : Cx) (e : Expr) (s : A) (b : Bool) : Prop := ∀ as B H σ, Ok X.K as B H σ s → ∀ Q : Bool → Hp → Prop, (∀ B' H', Ext as B H as B' H' → Ok X.K as B' H' σ s → Q b H') → wW X e σ H Q
/-- arguments, all of them values -/
def JD (X : Cx) (es : List Expr) (s : A) (ds : List D) (s' : A) : Prop := ∀ as B H σ, Ok X.K as B H σ s → ∀ Q : List V → Hp → Prop, (∀ vs B' H', Ext as B H as B' H' → Ok X.K as B' H' σ s' → Reps X.K B' vs ds → Q vs H') → wA X es σ H Q
/-- arguments, values or cells -/
inductive ArgsOk (K : PySem.W.Frag) (B : Hp) (as : List Addr) : List V → List Sl → Prop
  | nil : ArgsOk K B as [] []
  | cons {v : V} {vs : List V} {x : Sl} {xs : List Sl} : SlOk K B as (some v) x → ArgsOk K B as vs xs → ArgsOk K B as (v :: vs) (x :: xs)
def JA (X : Cx) (es : List Expr) (s : A) (xs : List Sl) (s' : A) : Prop := ∀ as B H σ, Ok X.K as B H σ s → ∀ Q : List V → Hp → Prop, (∀ vs B' H', Ext as B H as B' H' → Ok X.K as B' H' σ s' → ArgsOk X.K B' as vs xs → Q vs H') → wA X es σ H Q
def JO (X : Cx) (e : Option Expr) (s : A) (o : Option Int) : Prop := ∀ as B H σ, Ok X.K as B H σ s → ∀ Q : Option Int → Hp → Prop, (∀ B' H', Ext as B H as B' H' → Ok X.K as B' H' σ s → Q o H') → wO X e σ H Q

/-- where a body stands -/
structure Cok (X : Cx) (W : WX) (k : Nat) : Prop where
  hr : Room k X.A
  tk : Takes X W
  calm : X.calm = true
  hp : PassesOwn (model X.prog X.w) X.A X.env X.xe
  nd : X.N.Nodup
def WN : WX := fun _ _ _ _ => False

section
variable {X : Cx} {W : WX} {k : Nat} {e a b c : Expr} {es : List Expr} {s s' s1 s2 s3 : A} {d d' da db dc : D} {r : Res} {ds : List D} {xs ys : List D} {pos p2 : Pos} {x : Str}
theorem je_of {te : TE} (h : PE X e te) (k : ∀ as B H σ, Ok X.K as B H σ s → ∀ Q : VK, (∀ v B' H', Ext as B H as B' H' → Ok X.K as B' H' σ s' → Rep X.K B' v d → Q v H') → te σ H Q) : JE X W e s (.ok d) s' :=
  fun as B H σ ok Q q => wE_of h (k as B H σ ok Q q)
theorem jt_of {te : TT} (h : PT X e te) (k : ∀ as B H σ, Ok X.K as B H σ s → ∀ Q : Bool → Hp → Prop, (∀ B' H', Ext as B H as B' H' → Ok X.K as B' H' σ s → Q β H') → te σ H Q) : JT X e s β :=
  fun as B H σ ok Q q => wT_of h (k as B H σ ok Q q)
theorem jw_of {te : TT} (h : PW X e te) (k : ∀ as B H σ, Ok X.K as B H σ s → ∀ Q : Bool → Hp → Prop, (∀ B' H', Ext as B H as B' H' → Ok X.K as B' H' σ s → Q β H') → te σ H Q) : JW X e s β :=
  fun as B H σ ok Q q => wW_of h (k as B H σ ok Q q)
theorem jf_of {te : TE} (h : PE X e te) (k : ∀ as B H σ, Ok X.K as B H σ s → ∀ Q : VK, (∀ p vs B' H', Ext as B H as B' H' → Ok X.K as B' H' σ s' → H p = none → B' p = none → H' p = some (.lst vs) → Reps X.K B' vs xs → Q (.ref p) H') → te σ H Q) : JF X e s xs s' :=
  fun as B H σ ok Q q => wE_of h (k as B H σ ok Q q)
theorem Ext.back {as as' : List Addr} {B H B' H' : Hp} {p : Addr} (x : Ext as B H as' B' H') (h : H' p = none) : H p = none := by
  cases e : H p with
  | none => rfl
  | some o => exact absurd h (x.t p (ne_none e))
theorem free_lt {as : List Addr} {B H : Hp} {σ : L2.St} {K : PySem.W.Frag} (h : Ok K as B H σ s) {p : Addr} (e : H p = none) : p ∉ as := fun z => h.ht p z e
/-- a new list is a value -/
theorem je_f (h : JF X e s xs s') : JE X W e s (.ok (.lst xs)) s' := fun as B H σ ok Q q => h as B H σ ok _ fun p vs B' H' x o hp hB hH hr => by
  have sB : Same B' (upd B' p (.lst vs)) := same_upd' hB
  refine q _ (upd B' p (.lst vs)) H' ⟨x.b.trans sB, x.k, fun y e1 e2 e3 => ?_, x.l, x.t⟩ ⟨fun y u e => ?_, o.nd, o.ht, fun j y c h1 h2 h3 => ?_, ⟨o.cs.1, fun j y c h1 h2 => (o.cs.2 j y c h1 h2).mono sB ⟨[], by simp⟩ fun _ _ z => z⟩, o.ln, fun i y hy => (o.sl i y hy).mono sB ⟨[], by simp⟩⟩ (.lst upd_same (hr.mono sB))
  · rw [upd_ne (fun z => e2 (by rw [z]; exact hp))]; exact x.n y e1 e2 e3
  · by_cases e1 : y = p
    · rw [e1, upd_same] at e; rw [e1, hH]; exact e
    · rw [upd_ne e1] at e; exact o.sm _ _ e
  · rw [upd_ne (fun z => free_lt ok hp (by rw [← z]; exact List.mem_of_getElem? h1))]; exact o.nb j y c h1 h2 h3
theorem je_as (h : JE X W e s (.ok d) s') (e' : d = d') : JE X W e s (.ok d') s' := e' ▸ h
theorem jt_as {β β' : Bool} (h : JT X e s β) (e' : β = β') : JT X e s β' := e' ▸ h
theorem jf_as (h : JF X e s xs s') (e' : xs = ys) : JF X e s ys s' := e' ▸ h

/-! ### names, constants -/
theorem slot_of {as : List Addr} {B H : Hp} {σ : L2.St} {K : PySem.W.Frag} (h : Ok K as B H σ s) {i : Nat} (e : s.sl[i]? = some (.d d)) : ∃ v, σ[i]? = some (some v) ∧ Rep K B v d := by
  obtain ⟨v, e1, r⟩ := h.sl i _ e
  refine ⟨v, ?_, r⟩
  cases q : σ[i]? with
  | none => rw [q] at e1; cases e1
  | some o => rw [q] at e1; exact congrArg some e1
theorem cell_of {as : List Addr} {B H : Hp} {σ : L2.St} {K : PySem.W.Frag} (h : Ok K as B H σ s) {i j : Nat} (e : s.sl[i]? = some (.c j)) : ∃ a, σ[i]? = some (some (.ref a)) ∧ as[j]? = some a := by
  obtain ⟨a, e1, e2⟩ := h.sl i _ e
  refine ⟨a, ?_, e1⟩
  cases q : σ[i]? with
  | none => rw [q] at e2; cases e2
  | some o => rw [q] at e2; exact congrArg some e2
theorem je_var (i : Nat) (hs : s.sl[i]? = some (.d d) := by rfl) (hN : X.N[i]? = some x := by rfl) (hv : Vis X.env.scope x := by first | exact Or.inl rfl | exact Or.inr (Or.inl rfl) | exact Or.inr (Or.inr rfl))
    (hd : (x == ("__debug__" : Str)) = false := by decide) (hcd : (x == ("__classdict__" : Str)) = false := by decide) : JE X W (.Name x pos) s (.ok d) s :=
  je_of (pe_var hN hv hd hcd) fun as B H σ ok Q q => by
    obtain ⟨v, e, r⟩ := slot_of ok hs
    exact ⟨v, e, q v B H (Ext.refl ..) ok r⟩
theorem je_c {v : V} (h : PE X e (tC v)) (r : ∀ B, Rep X.K B v d) : JE X W e s (.ok d) s := je_of h fun as B H σ ok Q q => q v B H (Ext.refl ..) ok (r B)
theorem je_int {i : Int} {j : Nat} : JE X W (.Constant (.int i) j pos) s (.ok (.int i)) s := je_c pe_int fun _ => .int i
theorem je_bl {i : Bool} {j : Nat} : JE X W (.Constant (.bool i) j pos) s (.ok (.bl i)) s := je_c pe_bl fun _ => .bl i
theorem je_non {j : Nat} : JE X W (.Constant .none j pos) s (.ok .non) s := je_c pe_non fun _ => .non
theorem je_str {i : Str} {j : Nat} : JE X W (.Constant (.str i) j pos) s (.ok (.str i)) s := je_c pe_str fun _ => .str i
theorem je_globI {i : Int} {t : Tok} (hm : X.mg x = some (.int i t)) (hg : Gl X x := by rfl) (hd : (x == ("__debug__" : Str)) = false := by decide) : JE X W (.Name x pos) s (.ok (.int i)) s := je_c (v := .int i) (pe_glob hg hm ⟨t, rfl⟩ hd) fun _ => .int i
theorem je_globS {i : Str} {t : Tok} (hm : X.mg x = some (.str i t)) (hg : Gl X x := by rfl) (hd : (x == ("__debug__" : Str)) = false := by decide) : JE X W (.Name x pos) s (.ok (.str i)) s := je_c (v := .str i) (pe_glob hg hm ⟨t, rfl⟩ hd) fun _ => .str i

/-! ### two in a row -/
theorem Ok.two {X : Cx} {W : WX} {a b : Expr} {s s1 s2 : A} {da db : D} (ha : JE X W a s (.ok da) s1) (hb : JE X W b s1 (.ok db) s2) {as : List Addr} {B H : Hp} {σ : L2.St} (ok : Ok X.K as B H σ s) {R : V → V → Hp → Prop}
    (h : ∀ x y B2 H2, Ext as B H as B2 H2 → Ok X.K as B2 H2 σ s2 → Rep X.K B2 x da → Rep X.K B2 y db → R x y H2) : wE X a σ H fun x H1 => wE X b σ H1 fun y H2 => R x y H2 :=
  ha as B H σ ok _ fun x B1 H1 e1 o1 r1 => hb as B1 H1 σ o1 _ fun y B2 H2 e2 o2 r2 => h x y B2 H2 (e1.trans e2) o2 (r1.mono e2.b) r2
theorem Ok.one {X : Cx} {W : WX} {a : Expr} {s s1 : A} {da : D} (ha : JE X W a s (.ok da) s1) {as : List Addr} {B H : Hp} {σ : L2.St} (ok : Ok X.K as B H σ s) {R : V → Hp → Prop}
    (h : ∀ x B1 H1, Ext as B H as B1 H1 → Ok X.K as B1 H1 σ s1 → Rep X.K B1 x da → R x H1) : wE X a σ H fun x H1 => R x H1 :=
  ha as B H σ ok _ fun x B1 H1 e1 o1 r1 => h x B1 H1 e1 o1 r1

/-! ### operators -/
inductive BinD : Operator → D → D → D → Prop
  | addI {i j : Int} : BinD .Add (.int i) (.int j) (.int (i + j))
  | subI {i j : Int} : BinD .Sub (.int i) (.int j) (.int (i - j))
  | mulI {i j : Int} (h : CMul i j) : BinD .Mult (.int i) (.int j) (.int (i * j))
  | divI {i j : Int} (h : CDiv i j) : BinD .FloorDiv (.int i) (.int j) (.int (i / j))
  | modI {i j : Int} (h : 0 < j) : BinD .Mod (.int i) (.int j) (.int (i % j))
  | addS {x y : Str} (h : x.length + y.length ≤ sizeLine) : BinD .Add (.str x) (.str y) (.str (x ++ y))
  | catT {xs ys : List D} (h : xs ≠ []) (hl : xs.length + ys.length ≤ sizeLine) : BinD .Add (.tup xs) (.tup ys) (.tup (xs ++ ys))
theorem je_bin {op : Operator} (ha : JE X W a s (.ok da) s1) (hb : JE X W b s1 (.ok db) s2) (h : BinD op da db d) : JE X W (.BinOp a op b pos) s (.ok d) s2 := by
  cases h with
  | addI =>
    refine je_of (pe_op op_add pe_w pe_w) fun as B H σ ok Q q => Ok.two ha hb ok fun x y B2 H2 e2 o2 rx ry => ?_
    cases rx; cases ry
    exact ⟨_, _, rfl, rfl, q _ B2 H2 e2 o2 (.int _)⟩
  | subI =>
    refine je_of (pe_op op_sub pe_w pe_w) fun as B H σ ok Q q => Ok.two ha hb ok fun x y B2 H2 e2 o2 rx ry => ?_
    cases rx; cases ry
    exact ⟨_, _, rfl, rfl, q _ B2 H2 e2 o2 (.int _)⟩
  | mulI hc =>
    refine je_of (pe_op op_mul pe_w pe_w) fun as B H σ ok Q q => Ok.two ha hb ok fun x y B2 H2 e2 o2 rx ry => ?_
    cases rx; cases ry
    exact ⟨_, _, rfl, rfl, hc, q _ B2 H2 e2 o2 (.int _)⟩
  | divI hc =>
    refine je_of (pe_op op_fdiv pe_w pe_w) fun as B H σ ok Q q => Ok.two ha hb ok fun x y B2 H2 e2 o2 rx ry => ?_
    cases rx; cases ry
    exact ⟨_, _, rfl, rfl, hc, q _ B2 H2 e2 o2 (.int _)⟩
  | modI hc =>
    refine je_of (pe_op op_mod pe_w pe_w) fun as B H σ ok Q q => Ok.two ha hb ok fun x y B2 H2 e2 o2 rx ry => ?_
    cases rx; cases ry
    exact ⟨_, _, rfl, rfl, hc, q _ B2 H2 e2 o2 (.int _)⟩
  | addS hc =>
    refine je_of (pe_op op_add_str pe_w pe_w) fun as B H σ ok Q q => Ok.two ha hb ok fun x y B2 H2 e2 o2 rx ry => ?_
    cases rx; cases ry
    exact ⟨_, _, rfl, rfl, hc, q _ B2 H2 e2 o2 (.str _)⟩
  | @catT xs ys hne hl =>
    refine je_of (pe_op op_catT pe_w pe_w) fun as B H σ ok Q q => Ok.two ha hb ok fun x y B2 H2 e2 o2 rx ry => ?_
    cases rx with
    | @tup pa va _ sa ra =>
      cases ry with
      | @tup pb vb _ sb rb =>
        have l1 := ra.length
        have l2 := rb.length
        refine ⟨_, _, va, vb, rfl, rfl, same_t o2.sm sa, same_t o2.sm sb, fun z => ?_, by omega, ?_, fun _ p hp => ?_⟩
        · rw [z] at l1
          exact hne (List.eq_nil_of_length_eq_zero l1.symm)
        · intro z
          rw [z] at l2
          have e : ys = [] := List.eq_nil_of_length_eq_zero l2.symm
          subst e
          rw [List.append_nil] at q
          exact q _ B2 H2 e2 o2 (.tup sa ra)
        · obtain ⟨o3, e3⟩ := o2.new (o := .tup (va ++ vb)) hp
          exact q _ _ _ (e2.trans e3) o3 (.tup (.inl (.inl upd_same)) ((ra.mono e3.b).append (rb.mono e3.b)))
theorem je_neg {i : Int} (ha : JE X W a s (.ok (.int i)) s1) : JE X W (.UnaryOp .USub a pos) s (.ok (.int (-i))) s1 :=
  je_of (pe_un un_neg pe_w) fun as B H σ ok Q q => Ok.one ha ok fun x B1 H1 e1 o1 r => by
    cases r
    exact ⟨i, rfl, q _ B1 H1 e1 o1 (.int _)⟩
/-- lists put together; a list so many times -/
theorem Ok.newF {K : PySem.W.Frag} {as : List Addr} {B H B2 H2 : Hp} {σ : L2.St} {s2 : A} {p : Addr} {vs : List V} {xs : List D} {Q : VK} (e2 : Ext as B H as B2 H2) (o2 : Ok K as B2 H2 σ s2) (hp : H2 p = none) (r : Reps K B2 vs xs)
    (q : ∀ p vs B' H', Ext as B H as B' H' → Ok K as B' H' σ s2 → H p = none → B' p = none → H' p = some (.lst vs) → Reps K B' vs xs → Q (.ref p) H') : Q (.ref p) (upd H2 p (.lst vs)) := by
  obtain ⟨o3, e3⟩ := o2.junk (o := .lst vs) hp
  exact q p vs B2 _ (e2.trans e3) o3 (e2.back hp) (o2.sm.free hp) upd_same r
theorem jf_cat (ha : JE X WN a s (.ok (.lst xs)) s1) (hb : JE X WN b s1 (.ok (.lst ys)) s2) (hl : xs.length + ys.length ≤ sizeLine) : JF X (.BinOp a .Add b pos) s (xs ++ ys) s2 :=
  jf_of (pe_op op_cat pe_w pe_w) fun as B H σ ok Q q => Ok.two ha hb ok fun x y B2 H2 e2 o2 rx ry => by
    cases rx with
    | @lst pa va _ sa ra =>
      cases ry with
      | @lst pb vb _ sb rb =>
        have l1 := ra.length
        have l2 := rb.length
        exact ⟨_, _, va, vb, rfl, rfl, o2.sm _ _ sa, o2.sm _ _ sb, by omega, fun p hp => Ok.newF e2 o2 hp (ra.append rb) q⟩
theorem jf_rep {n : Int} (ha : JE X WN a s (.ok (.lst xs)) s1) (hb : JE X WN b s1 (.ok (.int n)) s2) (h1 : -(2 ^ 63) ≤ n ∧ n < 2 ^ 63) (hl : xs.length * n.toNat ≤ sizeLine) : JF X (.BinOp a .Mult b pos) s (List.replicate n.toNat xs).flatten s2 :=
  jf_of (pe_op op_rep pe_w pe_w) fun as B H σ ok Q q => Ok.two ha hb ok fun x y B2 H2 e2 o2 rx ry => by
    cases ry
    cases rx with
    | @lst pa va _ sa ra =>
      have l1 := ra.length
      exact ⟨_, _, va, rfl, rfl, o2.sm _ _ sa, h1.1, h1.2, by rw [l1]; exact hl, fun p hp => Ok.newF e2 o2 hp (ra.rep _) q⟩

/-! ### displays -/
theorem jd_nil : JD X [] s [] s := fun as B H σ ok Q q => wA_of pa_nil (q [] B H (Ext.refl ..) ok .nil)
theorem jd_cons (ha : JE X WN e s (.ok d) s1) (hr : JD X es s1 ds s2) (hs : starEach (e :: es) X.env = (false, eval e X.env) :: starEach es X.env := by rfl) : JD X (e :: es) s (d :: ds) s2 :=
  fun as B H σ ok Q q => wA_of (pa_cons pe_w pa_w hs) (Ok.one ha ok fun x B1 H1 e1 o1 r => hr as B1 H1 σ o1 _ fun vs B2 H2 e2 o2 rr => q _ B2 H2 (e1.trans e2) o2 (.cons (r.mono e2.b) rr))
theorem je_tup {j : Nat} (h : JD X es s ds s1) (hl : ds.length ≤ sizeLine := by exact Nat.le_of_ble_eq_true rfl) : JE X W (.Tuple es j pos) s (.ok (.tup ds)) s1 :=
  je_of (pe_tup pa_w) fun as B H σ ok Q q => h as B H σ ok _ fun vs B1 H1 e1 o1 r => by
    have l := r.length
    refine ⟨by omega, fun p hp => ?_⟩
    obtain ⟨o3, e3⟩ := o1.new (o := .tup vs) hp
    exact q _ _ _ (e1.trans e3) o3 (.tup (.inl (.inl upd_same)) (r.mono e3.b))
theorem jf_lst (h : JD X es s ds s1) (hl : ds.length ≤ sizeLine := by exact Nat.le_of_ble_eq_true rfl) : JF X (.List es pos) s ds s1 :=
  jf_of (pe_lst pa_w) fun as B H σ ok Q q => h as B H σ ok _ fun vs B1 H1 e1 o1 r => by
    have l := r.length
    exact ⟨by omega, fun p hp => Ok.newF e1 o1 hp r q⟩

/-! ### items -/
theorem Reps.atI {K : PySem.W.Frag} {B : Hp} {ds : List D} {vs : List V} {i : Int} {d : D} (h : Reps K B vs ds) (e : L2.atI ds i = some d) : ∃ v, L2.atI vs i = some v ∧ Rep K B v d := by
  unfold L2.atI at e ⊢
  rw [h.length]
  cases q : ixN ds.length i with
  | none => rw [q] at e; cases e
  | some j =>
    rw [q] at e
    exact h.get e
inductive IxD : D → D → D → Prop
  | lst {xs : List D} {i : Int} {d : D} (h : L2.atI xs i = some d) : IxD (.lst xs) (.int i) d
  | tup {xs : List D} {i : Int} {d : D} (h : L2.atI xs i = some d) : IxD (.tup xs) (.int i) d
  | scr {ns : List Int} {i n : Int} (h : L2.atI ns i = some n) : IxD (.scr ns) (.int i) (.int n)
  | str {z : Str} {i : Int} {c : Nat} (hl : z.length ≤ sizeLine) (h : L2.atI z.cps.toList i = some c) : IxD (.str z) (.int i) (.str ⟨#[c]⟩)
theorem je_ix (ha : JE X W a s (.ok da) s1) (hb : JE X W b s1 (.ok db) s2) (h : IxD da db d) (hs : PlainIx b := by (intro _ _; rfl)) : JE X W (.Subscript a b pos) s (.ok d) s2 := by
  refine je_of (pe_ix ix_seq pe_w pe_w hs) fun as B H σ ok Q q => Ok.two ha hb ok fun x y B2 H2 e2 o2 rx ry => ?_
  cases h with
  | @lst xs i d h =>
    cases ry
    cases rx with
    | lst sa ra =>
      obtain ⟨v, h1, r⟩ := ra.atI h
      exact .inl ⟨_, _, i, v, rfl, rfl, .inl (.inl (o2.sm _ _ sa)), h1, q v B2 H2 e2 o2 r⟩
  | @tup xs i d h =>
    cases ry
    cases rx with
    | tup sa ra =>
      obtain ⟨v, h1, r⟩ := ra.atI h
      exact .inr (.inl ⟨_, _, i, v, rfl, rfl, same_t o2.sm sa, h1, q v B2 H2 e2 o2 r⟩)
  | @scr ns i n h =>
    cases ry
    cases rx with
    | scr sa =>
      refine .inl ⟨_, _, i, .int n, rfl, rfl, o2.sm.seq sa, ?_, q _ B2 H2 e2 o2 (.int n)⟩
      unfold L2.atI at h ⊢
      rw [List.length_map]
      cases e : ixN ns.length i with
      | none => rw [e] at h; cases h
      | some j =>
        rw [e] at h
        show (ns.map V.int)[j]? = _
        rw [List.getElem?_map]
        have h' : ns[j]? = some n := h
        rw [h']
        rfl
  | @str z i c hl h =>
    cases ry
    cases rx
    exact .inr (.inr ⟨z, i, c, rfl, rfl, hl, h, q _ B2 H2 e2 o2 (.str _)⟩)
theorem jo_none : JO X none s none := fun as B H σ ok Q q => wO_of po_none (q B H (Ext.refl ..) ok)
theorem jo_some {i : Int} (h : JE X WN e s (.ok (.int i)) s) : JO X (some e) s (some i) := fun as B H σ ok Q q => wO_of (po_some pe_w) (Ok.one h ok fun x B1 H1 e1 o1 r => by
  cases r
  exact ⟨i, rfl, q B1 H1 e1 o1⟩)
def cutG {α : Type} (xs : List α) (lo hi : Option Int) : List α := (xs.drop (HT.sIx xs.length 0 lo)).take (HT.sIx xs.length xs.length hi - HT.sIx xs.length 0 lo)
theorem Reps.cut {K : PySem.W.Frag} {B : Hp} {ds : List D} {vs : List V} (h : Reps K B vs ds) (lo hi : Option Int) : Reps K B (cutV vs lo hi) (cutG ds lo hi) := by
  unfold cutV cutG
  rw [h.length]
  exact (h.drop _).take _
theorem jf_cut {lo hi : Option Expr} {l u : Option Int} (ha : JE X WN a s (.ok (.lst xs)) s) (hl : JO X lo s l) (hu : JO X hi s u) : JF X (.Subscript a (.Slice lo hi none p2) pos) s (cutG xs l u) s :=
  jf_of (pe_slice sl_list pe_w po_w po_w) fun as B H σ ok Q q => Ok.one ha ok fun x B1 H1 e1 o1 r => hl as B1 H1 σ o1 _ fun B2 H2 e2 o2 => hu as B2 H2 σ o2 _ fun B3 H3 e3 o3 => by
    cases r with
    | lst sa ra => exact ⟨_, _, rfl, .inl (.inl (o3.sm _ _ (e3.b _ _ (e2.b _ _ sa)))), fun p hp => Ok.newF ((e1.trans e2).trans e3) o3 hp ((ra.mono (e2.b.trans e3.b)).cut l u) q⟩

/-! ### reading the cells as values -/
def vwS (cl : List Cl) : Sl → Sl
  | .u => .u
  | .d x => .d x
  | .c j => match cl[j]? with
    | some (.lst xs) => .d (.lst xs)
    | _ => .u
def A.pv (s : A) : A := ⟨s.sl.map (vwS s.cl), []⟩
def vwB (as : List Addr) (B H : Hp) : Hp := fun y => match B y with
  | some u => some u
  | none => if y ∈ as then (match H y with
    | some (.lst vs) => some (.lst vs)
    | _ => none) else none
def cutB (as : List Addr) (B B' : Hp) : Hp := fun y => match B y with
  | some _ => B' y
  | none => if y ∈ as then none else B' y
section
variable {K : PySem.W.Frag} {as : List Addr} {B B' H H' : Hp} {σ : L2.St}
theorem vwB_some {y : Addr} {u : HO} (h : B y = some u) : vwB as B H y = some u := by unfold vwB; rw [h]
theorem vwB_same (h : Same B H) : Same (vwB as B H) H := fun y u e => by
  unfold vwB at e
  cases q : B y with
  | some w => rw [q] at e; cases e; exact h _ _ q
  | none =>
    rw [q] at e
    dsimp only at e
    split at e
    · split at e
      · cases e; assumption
      · cases e
    · cases e
theorem Ok.view (ok : Ok K as B H σ s) : Ok K [] (vwB as B H) H σ s.pv where
  sm := vwB_same ok.sm
  nd := List.nodup_nil
  ht := fun _ h => nomatch h
  nb := fun j a c h => by simp at h
  cs := ⟨rfl, fun j a c h => by simp at h⟩
  ln := by
    rw [ok.ln]
    exact (List.length_map (as := s.sl) (vwS s.cl)).symm
  sl := fun i x hx => by
    have hx' : (s.sl.map (vwS s.cl))[i]? = some x := hx
    rw [List.getElem?_map] at hx'
    cases q : s.sl[i]? with
    | none => rw [q] at hx'; cases hx'
    | some y =>
      rw [q] at hx'
      have e : vwS s.cl y = x := Option.some.inj hx'
      have sB : Same B (vwB as B H) := fun y u e => vwB_some e
      cases y with
      | u => rw [← e]; exact True.intro
      | d z =>
        rw [← e]
        obtain ⟨v, h1, h2⟩ := ok.sl i _ q
        exact ⟨v, h1, h2.mono sB⟩
      | c j =>
        cases r : s.cl[j]? with
        | none => rw [← e]; simp only [vwS, r]; exact True.intro
        | some c =>
          cases c with
          | lst xs =>
            rw [← e]
            simp only [vwS, r]
            obtain ⟨a, h1, h2⟩ := ok.sl i _ q
            obtain ⟨vs, hH, hv⟩ := ok.cs.2 j a _ h1 r
            have hB := ok.nb j a _ h1 r True.intro
            refine ⟨.ref a, h2, .lst (vs := vs) ?_ (hv.mono sB)⟩
            unfold vwB
            rw [hB]
            dsimp only
            rw [if_pos (List.mem_of_getElem? h1), hH]
          | dic kvs => rw [← e]; simp only [vwS, r]; exact True.intro
          | ins C fs => rw [← e]; simp only [vwS, r]; exact True.intro
          | dead => rw [← e]; simp only [vwS, r]; exact True.intro
theorem cutB_t {a : Addr} {xs : List V} (ok : Ok K as B H σ s) (x : Ext [] (vwB as B H) H [] B' H') (h : SqT K B' a xs) : SqT K (cutB as B B') a xs := by
  have go : ∀ u, B' a = some u → (∀ vs, u ≠ .lst vs) → cutB as B B' a = some u := fun u e n => by
    unfold cutB
    cases q : B a with
    | some w => exact e
    | none =>
      dsimp only
      by_cases hm : a ∈ as
      · exfalso
        cases r : H a with
        | none => exact ok.ht a hm r
        | some o =>
          by_cases z : ∃ vs, o = .lst vs
          · obtain ⟨vs, rfl⟩ := z
            have z1 : vwB as B H a = some (.lst vs) := by
              unfold vwB
              rw [q]
              dsimp only
              rw [if_pos hm, r]
            have z2 := x.b _ _ z1
            rw [e] at z2
            exact n vs (Option.some.inj z2)
          · have z1 : vwB as B H a = none := by
              unfold vwB
              rw [q]
              dsimp only
              rw [if_pos hm, r]
              cases o <;> first | rfl | exact absurd ⟨_, rfl⟩ z
            have z2 := x.n a z1 (ne_none r) (fun z => nomatch z)
            rw [e] at z2
            cases z2
      · rw [if_neg hm]; exact e
  rcases h with (h | ⟨o, h⟩) | h
  · exact .inl (.inl (go _ h fun vs z => nomatch z))
  · exact .inl (.inr ⟨o, go _ h fun vs z => nomatch z⟩)
  · exact .inr h
mutual
theorem Rep.cutB (ok : Ok K as B H σ s) (x : Ext [] (vwB as B H) H [] B' H') : ∀ {d : D} {v : V}, D.nol d = true → Rep K B' v d → Rep K (cutB as B B') v d
  | .non, _, _, h => by cases h; exact .non
  | .bl b, _, _, h => by cases h; exact .bl b
  | .int i, _, _, h => by cases h; exact .int i
  | .str x, _, _, h => by cases h; exact .str x
  | .lst ds, _, n, h => by simp [D.nol] at n
  | .tup ds, _, n, h => by
    cases h with
    | tup ha hs => exact .tup (cutB_t ok x ha) (Reps.cutB ok x (by simpa [D.nol] using n) hs)
  | .scr ns, _, n, h => by simp [D.nol] at n
  | .exc c, _, n, h => by simp [D.nol] at n
  | .dct _, _, n, h => by simp [D.nol] at n
  | .ky _, _, n, h => by simp [D.nol] at n
theorem Reps.cutB (ok : Ok K as B H σ s) (x : Ext [] (vwB as B H) H [] B' H') : ∀ {ds : List D} {vs : List V}, D.nols ds = true → Reps K B' vs ds → Reps K (cutB as B B') vs ds
  | [], _, _, h => by cases h; exact .nil
  | d :: ds, _, n, h => by
    cases h with
    | cons h1 h2 =>
      have n' : (D.nol d && D.nols ds) = true := by simpa [D.nols] using n
      rw [Bool.and_eq_true] at n'
      exact .cons (Rep.cutB ok x n'.1 h1) (Reps.cutB ok x n'.2 h2)
end
theorem Ok.unview (ok : Ok K as B H σ s) (x : Ext [] (vwB as B H) H [] B' H') (sm : Same B' H') : Ext as B H as (cutB as B B') H' ∧ Ok K as (cutB as B B') H' σ s := by
  have sB : Same B (cutB as B B') := fun y u e => by
    unfold cutB
    rw [e]
    exact x.b _ _ (vwB_some e)
  have sH : Same H H' := fun y u e => x.k y u (fun z => nomatch z) e
  refine ⟨⟨sB, fun y u _ e => sH _ _ e, fun y h1 h2 h3 => ?_, ⟨[], by simp, fun _ z => nomatch z⟩, x.t⟩, ⟨fun y u e => ?_, ok.nd, fun a ha => x.t a (ok.ht a ha), fun j a c h1 h2 h3 => ?_, ⟨ok.cs.1, fun j a c h1 h2 => (ok.cs.2 j a c h1 h2).mono sB ⟨[], by simp⟩ fun _ u e => sH _ _ e⟩, ok.ln, fun i y hy => (ok.sl i y hy).mono sB ⟨[], by simp⟩⟩⟩
  · unfold DL.cutB
    rw [h1]
    dsimp only
    rw [if_neg h3]
    refine x.n y ?_ h2 (fun z => nomatch z)
    unfold vwB
    rw [h1]
    dsimp only
    rw [if_neg h3]
  · unfold DL.cutB at e
    cases q : B y with
    | some w => rw [q] at e; exact sm _ _ e
    | none =>
      rw [q] at e
      dsimp only at e
      split at e
      · cases e
      · exact sm _ _ e
  · unfold DL.cutB
    rw [ok.nb j a c h1 h2 h3]
    dsimp only
    rw [if_pos (List.mem_of_getElem? h1)]
end
theorem je_view (h : JE X W e s.pv (.ok d) s.pv) (hn : D.nol d = true := by rfl) : JE X W e s (.ok d) s := fun as B H σ ok Q q =>
  h [] _ H σ ok.view Q fun v B' H' x o r => by
    obtain ⟨x2, o2⟩ := ok.unview x o.sm
    exact q v _ H' x2 o2 (Rep.cutB ok x hn r)
theorem jt_view {β : Bool} (h : JT X e s.pv β) : JT X e s β := fun as B H σ ok Q q =>
  h [] _ H σ ok.view Q fun B' H' x o => by
    obtain ⟨x2, o2⟩ := ok.unview x o.sm
    exact q _ H' x2 o2
end
end DL
set_option Elab.async false
set_option linter.all false
set_option maxRecDepth 100000
set_option maxHeartbeats 4000000
set_option autoImplicit true
/-! DLc: comparisons, tests, built-in calls, methods -/
namespace DL
open PySem PySem.Spec PyProof.Rows L2

/-! ### the library's data -/
mutual
def D.py : D → PyData
  | .non => .none
  | .bl b => .bool b
  | .int i => .int i
  | .str s => .str s
  | .lst xs => .list (D.pys xs)
  | .tup xs => .tuple (D.pys xs)
  | .scr ns => .list (ns.map .int)
  | .exc _ => .none
  | .dct _ => .none
  | .ky _ => .none
def D.pys : List D → List PyData
  | [] => []
  | x :: xs => D.py x :: D.pys xs
end
theorem pys_map : ∀ xs : List D, D.pys xs = xs.map D.py
  | [] => rfl
  | x :: xs => by rw [D.pys, List.map_cons, pys_map xs]
/-- data no deeper than n, its texts proper -/
def Sh : Nat → D → Prop
  | _, .str s => PyData.strOk s = true
  | n + 1, .lst xs => ∀ x ∈ xs, Sh n x
  | n + 1, .tup xs => ∀ x ∈ xs, Sh n x
  | 0, .lst _ => False
  | 0, .tup _ => False
  | _, .scr _ => False
  | _, .exc _ => False
  | _, .dct _ => False
  | _, .ky _ => False
  | _, .non => True
  | _, .bl _ => True
  | _, .int _ => True
theorem sh_py : ∀ (n : Nat) (d : D), Sh n d → d.py.canLay0 = true ∧ d.py.depth ≤ n
  | n, .str s, h => by
    cases n <;> exact ⟨by simpa [Sh, D.py, PyData.canLay0] using h, by simp [D.py, PyData.depth]⟩
  | 0, .lst _, h => by simp [Sh] at h
  | 0, .tup _, h => by simp [Sh] at h
  | n + 1, .lst xs, h => by
    have h' : ∀ x ∈ xs, Sh n x := by simpa [Sh] using h
    have z : ∀ l : List D, (∀ x ∈ l, Sh n x) → PyData.canLayAll0 (D.pys l) = true ∧ PyData.depthAll (D.pys l) ≤ n := by
      intro l
      induction l with
      | nil => intro _; exact ⟨rfl, Nat.zero_le _⟩
      | cons x l ih =>
        intro hl
        have h1 := sh_py n x (hl x List.mem_cons_self)
        have h2 := ih fun y hy => hl y (List.mem_cons_of_mem _ hy)
        exact ⟨by rw [D.pys, PyData.canLayAll0, h1.1, h2.1]; rfl, by rw [D.pys, PyData.depthAll]; exact Nat.max_le.mpr ⟨h1.2, h2.2⟩⟩
    obtain ⟨z1, z2⟩ := z xs h'
    exact ⟨by rw [D.py, PyData.canLay0]; exact z1, by rw [D.py, PyData.depth]; omega⟩
  | n + 1, .tup xs, h => by
    have h' : ∀ x ∈ xs, Sh n x := by simpa [Sh] using h
    have z : ∀ l : List D, (∀ x ∈ l, Sh n x) → PyData.canLayAll0 (D.pys l) = true ∧ PyData.depthAll (D.pys l) ≤ n := by
      intro l
      induction l with
      | nil => intro _; exact ⟨rfl, Nat.zero_le _⟩
      | cons x l ih =>
        intro hl
        have h1 := sh_py n x (hl x List.mem_cons_self)
        have h2 := ih fun y hy => hl y (List.mem_cons_of_mem _ hy)
        exact ⟨by rw [D.pys, PyData.canLayAll0, h1.1, h2.1]; rfl, by rw [D.pys, PyData.depthAll]; exact Nat.max_le.mpr ⟨h1.2, h2.2⟩⟩
    obtain ⟨z1, z2⟩ := z xs h'
    exact ⟨by rw [D.py, PyData.canLay0]; exact z1, by rw [D.py, PyData.depth]; omega⟩
  | n, .scr _, h => by cases n <;> simp [Sh] at h
  | n, .exc _, h => by cases n <;> simp [Sh] at h
  | n, .dct _, h => by cases n <;> simp [Sh] at h
  | n, .ky _, h => by cases n <;> simp [Sh] at h
  | n, .non, _ => by cases n <;> exact ⟨rfl, by simp [D.py, PyData.depth]⟩
  | n, .bl _, _ => by cases n <;> exact ⟨rfl, by simp [D.py, PyData.depth]⟩
  | n, .int _, _ => by cases n <;> exact ⟨rfl, by simp [D.py, PyData.depth]⟩
theorem shaped_of {n : Nat} {d : D} (h : Sh n d) (hn : n ≤ 60) : SeqAt.shaped d.py = true := by
  obtain ⟨h1, h2⟩ := sh_py n d h
  unfold SeqAt.shaped
  rw [h1, Bool.true_and, decide_eq_true_eq]
  omega
section
variable {K : PySem.W.Frag} {B : Hp}
mutual
theorem Rep.dp : ∀ (n : Nat) {d : D} {v : V}, Sh n d → Rep K B v d → Dp K B v d.py
  | _, .non, _, _, h => by cases h; exact .non
  | _, .bl b, _, _, h => by cases h; exact .bl b
  | _, .int i, _, _, h => by cases h; exact .int i
  | _, .str x, _, _, h => by cases h; exact .str x
  | 0, .lst _, _, n, _ => by simp [Sh] at n
  | 0, .tup _, _, n, _ => by simp [Sh] at n
  | n + 1, .lst ds, _, s, h => by
    cases h with
    | lst ha hs => exact .lst (SqL.of ha) (Reps.dp n (by simpa [Sh] using s) hs)
  | n + 1, .tup ds, _, s, h => by
    cases h with
    | tup ha hs => exact .tup ha (Reps.dp n (by simpa [Sh] using s) hs)
  | n, .scr _, _, s, _ => by cases n <;> simp [Sh] at s
  | n, .exc _, _, s, _ => by cases n <;> simp [Sh] at s
  | n, .dct _, _, s, _ => by cases n <;> simp [Sh] at s
  | n, .ky _, _, s, _ => by cases n <;> simp [Sh] at s
theorem Reps.dp : ∀ (n : Nat) {ds : List D} {vs : List V}, (∀ x ∈ ds, Sh n x) → Reps K B vs ds → DpAll K B vs (D.pys ds)
  | _, [], _, _, h => by cases h; exact .nil
  | n, d :: ds, _, s, h => by
    cases h with
    | cons h1 h2 => exact .cons (Rep.dp n (s d List.mem_cons_self) h1) (Reps.dp n (fun x hx => s x (List.mem_cons_of_mem _ hx)) h2)
end
mutual
theorem dp_same {B' : Hp} (e : Same B B') : ∀ {d : PyData} {v : V}, Dp K B v d → Dp K B' v d
  | .none, _, h => by cases h; exact .non
  | .bool _, _, h => by cases h; exact .bl _
  | .int _, _, h => by cases h; exact .int _
  | .str _, _, h => by cases h; exact .str _
  | .list ds, _, h => by
    cases h with
    | lst ha hs => exact .lst (e.seq ha) (dpAll_same e hs)
  | .tuple ds, _, h => by
    cases h with
    | tup ha hs => exact .tup (same_t e ha) (dpAll_same e hs)
  | .dict _, _, h => by cases h
theorem dpAll_same {B' : Hp} (e : Same B B') : ∀ {ds : List PyData} {vs : List V}, DpAll K B vs ds → DpAll K B' vs ds
  | [], _, h => by cases h; exact .nil
  | d :: ds, _, h => by
    cases h with
    | cons h1 h2 => exact .cons (dp_same e h1) (dpAll_same e h2)
end
end
def D.eqv (a b : D) : Bool := PyData.eqv a.py b.py
def isN : D → Bool
  | .non => true
  | _ => false
/-- a in b's items -/
def inD (a : D) (bs : List D) : Bool := bs.any fun z => D.eqv z a

/-! ### comparisons -/
inductive CmpD : CmpOp → D → D → Bool → Prop
  | lt {i j : Int} : CmpD .Lt (.int i) (.int j) (decide (i < j))
  | le {i j : Int} : CmpD .LtE (.int i) (.int j) (decide (i ≤ j))
  | gt {i j : Int} : CmpD .Gt (.int i) (.int j) (decide (j < i))
  | ge {i j : Int} : CmpD .GtE (.int i) (.int j) (decide (j ≤ i))
  | eqI {i j : Int} : CmpD .Eq (.int i) (.int j) (decide (i = j))
  | neI {i j : Int} : CmpD .NotEq (.int i) (.int j) (!decide (i = j))
  | eqS {i j : Str} : CmpD .Eq (.str i) (.str j) (decide (i = j))
  | neS {i j : Str} : CmpD .NotEq (.str i) (.str j) (!decide (i = j))
  | eqB {i j : Bool} : CmpD .Eq (.bl i) (.bl j) (decide (i = j))
  | eq {a b : D} (n : Nat) (hn : n ≤ 60) (ha : Sh n a) (hb : Sh n b) : CmpD .Eq a b (D.eqv a b)
  | ne {a b : D} (n : Nat) (hn : n ≤ 60) (ha : Sh n a) (hb : Sh n b) : CmpD .NotEq a b (!D.eqv a b)
  | isN {a : D} : CmpD .Is a .non (isN a)
  | notN {a : D} : CmpD .IsNot a .non (!isN a)
  | inL {a : D} {bs : List D} (n : Nat) (hn : n ≤ 59) (ha : Sh n a) (hb : ∀ b ∈ bs, Sh n b) : CmpD .In a (.lst bs) (inD a bs)
  | ninL {a : D} {bs : List D} (n : Nat) (hn : n ≤ 59) (ha : Sh n a) (hb : ∀ b ∈ bs, Sh n b) : CmpD .NotIn a (.lst bs) (!inD a bs)
  | inTI {i : Int} {js : List Int} : CmpD .In (.int i) (.tup (js.map .int)) (js.any fun j => decide (j = i))
  | inTS {i : Str} {js : List Str} : CmpD .In (.str i) (.tup (js.map .str)) (js.any fun j => decide (j = i))
  | ninTS {i : Str} {js : List Str} : CmpD .NotIn (.str i) (.tup (js.map .str)) (!js.any fun j => decide (j = i))
  | inS {c : Nat} {z : Str} : CmpD .In (.str ⟨#[c]⟩) (.str z) (decide (c ∈ z.cps.toList))
theorem inV_int (i : Int) : ∀ js : List Int, inV (.int i) (js.map V.int) = js.any fun j => decide (j = i)
  | [] => rfl
  | j :: js => by
    have ih := inV_int i js
    unfold inV at ih ⊢
    rw [List.map_cons, List.any_cons, List.any_cons, ih]
    congr 1
theorem inV_str (i : Str) : ∀ js : List Str, inV (.str i) (js.map V.str) = js.any fun j => decide (j = i)
  | [] => rfl
  | j :: js => by
    have ih := inV_str i js
    unfold inV at ih ⊢
    rw [List.map_cons, List.any_cons, List.any_cons, ih]
    congr 1
section
variable {X : Cx} {W : WX} {k : Nat} {e a b c : Expr} {es : List Expr} {s s' s1 s2 s3 : A} {d d' da db dc : D} {r : Res} {ds : List D} {xs ys : List D} {pos p2 p : Pos} {x : Str} {β β1 β2 : Bool} {op : CmpOp}
/-- the rule of a comparison, told by what its two sides are -/
theorem cmp_rule (hu : X.A.units + 65 < cLine) (h : CmpD op da db β) : ∃ r : R2, OpR X (compareOp op) r ∧ ∀ (B H : Hp) (x y : V) (Q : VK), Same B H → Rep X.K B x da → Rep X.K B y db → Q (.bl β) H → r x y H Q := by
  cases h with
  | lt => exact ⟨_, op_lt, fun B H x y Q sm rx ry q => by cases rx; cases ry; exact ⟨_, _, rfl, rfl, q⟩⟩
  | le => exact ⟨_, op_le, fun B H x y Q sm rx ry q => by cases rx; cases ry; exact ⟨_, _, rfl, rfl, q⟩⟩
  | gt => exact ⟨_, op_gt, fun B H x y Q sm rx ry q => by cases rx; cases ry; exact ⟨_, _, rfl, rfl, q⟩⟩
  | ge => exact ⟨_, op_ge, fun B H x y Q sm rx ry q => by cases rx; cases ry; exact ⟨_, _, rfl, rfl, q⟩⟩
  | eqI => exact ⟨_, op_eq, fun B H x y Q sm rx ry q => by cases rx; cases ry; exact ⟨rfl, by rw [dec_int, Bool.beq_eq_decide_eq]; exact q⟩⟩
  | neI => exact ⟨_, op_ne, fun B H x y Q sm rx ry q => by cases rx; cases ry; exact ⟨rfl, by rw [dec_int, Bool.beq_eq_decide_eq]; exact q⟩⟩
  | @eqS i j => exact ⟨_, op_eq, fun B H x y Q sm rx ry q => by
      cases rx; cases ry
      refine ⟨rfl, ?_⟩
      have e : decide (V.str i = V.str j) = decide (i = j) := by
        by_cases z : i = j
        · subst z; simp
        · rw [decide_eq_false z, decide_eq_false (fun q => z (V.str.inj q))]
      rw [e]; exact q⟩
  | @neS i j => exact ⟨_, op_ne, fun B H x y Q sm rx ry q => by
      cases rx; cases ry
      refine ⟨rfl, ?_⟩
      have e : decide (V.str i = V.str j) = decide (i = j) := by
        by_cases z : i = j
        · subst z; simp
        · rw [decide_eq_false z, decide_eq_false (fun q => z (V.str.inj q))]
      rw [e]; exact q⟩
  | @eqB i j => exact ⟨_, op_eq, fun B H x y Q sm rx ry q => by
      cases rx; cases ry
      refine ⟨rfl, ?_⟩
      have e : decide (V.bl i = V.bl j) = decide (i = j) := by cases i <;> cases j <;> rfl
      rw [e]; exact q⟩
  | eq n hn ha hb => exact ⟨_, op_eqD (by omega), fun B H x y Q sm rx ry q => ⟨_, _, dp_same sm (rx.dp n ha), dp_same sm (ry.dp n hb), shaped_of ha hn, shaped_of hb hn, q⟩⟩
  | ne n hn ha hb => exact ⟨_, op_neD (by omega), fun B H x y Q sm rx ry q => ⟨_, _, dp_same sm (rx.dp n ha), dp_same sm (ry.dp n hb), shaped_of ha hn, shaped_of hb hn, q⟩⟩
  | isN => exact ⟨_, op_isN, fun B H x y Q sm rx ry q => by
      cases ry
      refine ⟨rfl, ?_⟩
      have e : decide (x = V.non) = DL.isN da := by cases rx <;> rfl
      rw [e]; exact q⟩
  | notN => exact ⟨_, op_notN, fun B H x y Q sm rx ry q => by
      cases ry
      refine ⟨rfl, ?_⟩
      have e : decide (x = V.non) = DL.isN da := by cases rx <;> rfl
      rw [e]; exact q⟩
  | @inL a bs n hn ha hb => exact ⟨_, op_inD hu, fun B H x y Q sm rx ry q => by
      have sb : Sh (n + 1) (.lst bs) := by simpa [Sh] using hb
      refine ⟨_, _, dp_same sm (rx.dp n ha), by have z := dp_same sm (ry.dp (n + 1) sb); rw [D.py] at z; exact z, shaped_of ha (by omega), by have z := shaped_of sb (by omega); rw [D.py] at z; exact z, ?_⟩
      have e : ((D.pys bs).any fun z => PyData.eqv z da.py) = inD da bs := by rw [pys_map, List.any_map]; rfl
      rw [e]; exact q⟩
  | @ninL a bs n hn ha hb => exact ⟨_, op_notInD hu, fun B H x y Q sm rx ry q => by
      have sb : Sh (n + 1) (.lst bs) := by simpa [Sh] using hb
      refine ⟨_, _, dp_same sm (rx.dp n ha), by have z := dp_same sm (ry.dp (n + 1) sb); rw [D.py] at z; exact z, shaped_of ha (by omega), by have z := shaped_of sb (by omega); rw [D.py] at z; exact z, ?_⟩
      have e : ((D.pys bs).any fun z => PyData.eqv z da.py) = inD da bs := by rw [pys_map, List.any_map]; rfl
      rw [e]; exact q⟩
  | @inTI i js => exact ⟨_, op_in_seq, fun B H x y Q sm rx ry q => by
      cases rx
      cases ry with
      | tup ht hv =>
        have e := hv.ints
        subst e
        refine ⟨_, _, rfl, .inr (same_t sm ht), rfl, by simp [flatV], ?_⟩
        rw [inV_int]
        exact q⟩
  | @inTS i js => exact ⟨_, op_in_seq, fun B H x y Q sm rx ry q => by
      cases rx
      cases ry with
      | tup ht hv =>
        have e := hv.strs
        subst e
        refine ⟨_, _, rfl, .inr (same_t sm ht), rfl, by simp [flatV], ?_⟩
        rw [inV_str]
        exact q⟩
  | @ninTS i js => exact ⟨_, op_notIn_seq, fun B H x y Q sm rx ry q => by
      cases rx
      cases ry with
      | tup ht hv =>
        have e := hv.strs
        subst e
        refine ⟨_, _, rfl, .inr (same_t sm ht), rfl, by simp [flatV], ?_⟩
        rw [inV_str]
        exact q⟩
  | inS => exact ⟨_, op_in_sign, fun B H x y Q sm rx ry q => by cases rx; cases ry; exact ⟨_, _, rfl, rfl, q⟩⟩
theorem Cok.u65 (C : Cok X W k) : X.A.units + 65 < cLine := by
  have h := C.hr.un
  omega
theorem je_cmp {V : WX} (C : Cok X V k) (ha : JE X W a s (.ok da) s1) (hb : JE X W b s1 (.ok db) s2) (h : CmpD op da db β) (hm : behindInMarks op b = false := by first | exact nomark _ | rfl) : JE X W (.Compare a [op] [b] pos) s (.ok (.bl β)) s2 := by
  obtain ⟨r, ho, hr⟩ := cmp_rule C.u65 h
  exact je_of (pe_cmpR ho pe_w pe_w hm) fun as B H σ ok Q q => Ok.two ha hb ok fun x y B2 H2 e2 o2 rx ry => hr B2 H2 x y _ o2.sm rx ry (q _ B2 H2 e2 o2 (.bl _))
theorem jt_cmp (C : Cok X W k) (ha : JE X WN a s (.ok da) s) (hb : JE X WN b s (.ok db) s) (h : CmpD op da db β) (hm : behindInMarks op b = false := by first | exact nomark _ | rfl) : JT X (.Compare a [op] [b] pos) s β := by
  obtain ⟨r, ho, hr⟩ := cmp_rule C.u65 h
  exact jt_of (pt_cmpR ho pe_w pe_w hm) fun as B H σ ok Q q => Ok.two ha hb ok fun x y B2 H2 e2 o2 rx ry => hr B2 H2 x y _ o2.sm rx ry ⟨_, rfl, q B2 H2 e2 o2⟩
theorem op_nev {f : Value → Value → Sem Value} : OpR X f (fun _ _ _ _ => False) := fun _ _ _ _ _ _ _ _ _ _ _ _ h => h.elim
/-- a op b op' c -/
theorem je_chain {op' : CmpOp} {V : WX} (C : Cok X V k) (ha : JE X W a s (.ok da) s) (hb : JE X W b s (.ok db) s) (h : CmpD op da db β1) (hc : β1 = true → JE X W c s (.ok dc) s ∧ CmpD op' db dc β2) (hm : lastMarks [op, op'] [b, c] = false := by with_unfolding_all rfl) :
    JE X W (.Compare a [op, op'] [b, c] pos) s (.ok (.bl (β1 && β2))) s := by
  obtain ⟨r, ho, hr⟩ := cmp_rule C.u65 h
  cases β1 with
  | true =>
    obtain ⟨hc, h'⟩ := hc rfl
    obtain ⟨r', ho', hr'⟩ := cmp_rule C.u65 h'
    exact je_of (pe_chain ho ho' pe_w pe_w pe_w hm) fun as B H σ ok Q q => Ok.two ha hb ok fun x y B2 H2 e2 o2 rx ry => hr B2 H2 x y _ o2.sm rx ry ⟨true, rfl, by
      rw [if_pos rfl]
      exact Ok.one hc o2 fun z B3 H3 e3 o3 rz => hr' B3 H3 y z _ o3.sm (ry.mono e3.b) rz (q _ B3 H3 (e2.trans e3) o3 (.bl _))⟩
  | false =>
    exact je_of (pe_chain ho op_nev pe_w pe_w pe_w hm) fun as B H σ ok Q q => Ok.two ha hb ok fun x y B2 H2 e2 o2 rx ry => hr B2 H2 x y _ o2.sm rx ry ⟨false, rfl, by
      rw [if_neg (by decide)]
      exact q _ B2 H2 e2 o2 (.bl _)⟩ 
end
end DL
set_option Elab.async false
set_option linter.all false
set_option maxRecDepth 100000
set_option maxHeartbeats 4000000
set_option autoImplicit true
/-! DLd: tests, built-in calls, methods -/
namespace DL
open PySem PySem.Spec PyProof.Rows L2
section
variable {X : Cx} {W : WX} {k : Nat} {e a b c : Expr} {es rest : List Expr} {s s' s1 s2 s3 : A} {d d' da db dc : D} {r : Res} {ds : List D} {xs ys : List D} {pos p2 p apos : Pos} {x : Str} {β β1 β2 : Bool} {op : CmpOp}
/-! ### tests -/
theorem jt_val (h : JE X WN e s (.ok (.bl β)) s) (he : ∀ whole, isTrue e X.env whole = (do let v ← whole; standAt e.pos; holding [v] (truthy v)) := by intro _; rfl) : JT X e s β :=
  jt_of (pt_val pe_w he) fun as B H σ ok Q q => Ok.one h ok fun x B1 H1 e1 o1 r1 => by
    cases r1
    exact ⟨_, rfl, q B1 H1 e1 o1⟩
def truD : D → Bool
  | .non => false
  | .bl b => b
  | .int i => i != 0
  | .str s => (s.length : Int) != 0
  | .lst xs => !xs.isEmpty
  | .tup xs => !xs.isEmpty
  | .scr ns => !ns.isEmpty
  | .exc _ => true
  | .dct kvs => !kvs.isEmpty
  | .ky ns => !ns.isEmpty
theorem isEmpty_len {α β : Type} {l : List α} {m : List β} (h : l.length = m.length) : l.isEmpty = m.isEmpty := by
  cases l with
  | nil => cases m with
    | nil => rfl
    | cons b m => simp at h
  | cons a l => cases m with
    | nil => simp at h
    | cons b m => rfl
/-- lists, tuples, the script by their emptiness -/
theorem jt_tru (h : JE X WN e s (.ok d) s) (hd : (∃ xs, d = .lst xs) ∨ (∃ xs, d = .tup xs) ∨ (∃ ns, d = .scr ns) := by first | exact .inl ⟨_, rfl⟩ | exact .inr (.inl ⟨_, rfl⟩) | exact .inr (.inr ⟨_, rfl⟩)) (he : ∀ whole, isTrue e X.env whole = (do let v ← whole; standAt e.pos; holding [v] (truthy v)) := by intro _; rfl) : JT X e s (truD d) :=
  jt_of (pt_truth pe_w he) fun as B H σ ok Q q => Ok.one h ok fun x B1 H1 e1 o1 r1 => by
    rcases hd with ⟨xs, rfl⟩ | ⟨xs, rfl⟩ | ⟨ns, rfl⟩
    · cases r1 with
      | lst ha hs => exact ⟨_, .inl ⟨_, .inl (.inl (o1.sm _ _ ha)), by rw [isEmpty_len hs.length]; rfl⟩, q B1 H1 e1 o1⟩
    · cases r1 with
      | tup ha hs => exact ⟨_, .inr (.inl ⟨_, same_t o1.sm ha, by rw [isEmpty_len hs.length]; rfl⟩), q B1 H1 e1 o1⟩
    · cases r1 with
      | scr ha => exact ⟨_, .inl ⟨_, o1.sm.seq ha, by rw [isEmpty_len (List.length_map ..)]; rfl⟩, q B1 H1 e1 o1⟩
theorem jt_not (h : JT X e s β) : JT X (.UnaryOp .Not e pos) s (!β) := jt_of (pt_not pt_w) fun as B H σ ok Q q => h as B H σ ok _ fun B1 H1 e1 o1 => q B1 H1 e1 o1
theorem jw_and1 (h : JT X e s β) : JW X (.BoolOp .And [e] pos) s β := jw_of (pw_and1 pt_w) h
theorem jw_or1 (h : JT X e s β) : JW X (.BoolOp .Or [e] pos) s β := jw_of (pw_or1 pt_w) h
theorem jw_andC (h : JT X e s β1) (h2 : β1 = true → JW X (.BoolOp .And (b :: rest) pos) s β2) : JW X (.BoolOp .And (e :: b :: rest) pos) s (β1 && β2) :=
  jw_of (pw_and pt_w pw_w) fun as B H σ ok Q q => h as B H σ ok _ fun B1 H1 e1 o1 => by
    cases β1 with
    | true => exact iteT (h2 rfl as B1 H1 σ o1 _ fun B2 H2 e2 o2 => q B2 H2 (e1.trans e2) o2)
    | false => exact iteF (q B1 H1 e1 o1)
theorem jw_orC (h : JT X e s β1) (h2 : β1 = false → JW X (.BoolOp .Or (b :: rest) pos) s β2) : JW X (.BoolOp .Or (e :: b :: rest) pos) s (β1 || β2) :=
  jw_of (pw_or pt_w pw_w) fun as B H σ ok Q q => h as B H σ ok _ fun B1 H1 e1 o1 => by
    cases β1 with
    | false => exact iteF (h2 rfl as B1 H1 σ o1 _ fun B2 H2 e2 o2 => q B2 H2 (e1.trans e2) o2)
    | true => exact iteT (q B1 H1 e1 o1)
theorem jw_and (h : JT X e s β1) (h2 : JW X (.BoolOp .And (b :: rest) pos) s β2) : JW X (.BoolOp .And (e :: b :: rest) pos) s (β1 && β2) := jw_andC h fun _ => h2
theorem jw_or (h : JT X e s β1) (h2 : JW X (.BoolOp .Or (b :: rest) pos) s β2) : JW X (.BoolOp .Or (e :: b :: rest) pos) s (β1 || β2) := jw_orC h fun _ => h2
theorem jt_w (h : JW X e s β) : JT X e s β := jt_of (PW.pt pw_w) h
/-! ### .. as values -/
theorem je_not (h : JE X W e s (.ok (.bl β)) s) : JE X W (.UnaryOp .Not e pos) s (.ok (.bl (!β))) s := je_of (pe_not pe_w) fun as B H σ ok Q q => Ok.one h ok fun x B1 H1 e1 o1 r1 => by
  cases r1
  exact ⟨_, rfl, q _ B1 H1 e1 o1 (.bl _)⟩
theorem je_one {bop : BoolOp} (h : JE X W e s r s1) : JE X W (.BoolOp bop [e] pos) s r s1 := fun as B H σ ok Q q => wE_of (pe_one pe_w) (h as B H σ ok Q q)
theorem je_and (h : JE X W e s (.ok (.bl β1)) s) (h2 : β1 = true → JE X W (.BoolOp .And (b :: rest) pos) s (.ok d) s) (h3 : β1 = false → d = .bl false) : JE X W (.BoolOp .And (e :: b :: rest) pos) s (.ok d) s :=
  je_of (pe_and pe_w pe_w) fun as B H σ ok Q q => Ok.one h ok fun x B1 H1 e1 o1 r1 => by
    cases r1
    refine ⟨_, rfl, ?_⟩
    cases β1 with
    | true => exact iteT (Ok.one (h2 rfl) o1 fun x B2 H2 e2 o2 r2 => q _ B2 H2 (e1.trans e2) o2 r2)
    | false =>
      have z := h3 rfl
      subst z
      exact iteF (q _ B1 H1 e1 o1 (.bl _))
theorem je_or (h : JE X W e s (.ok (.bl β1)) s) (h2 : β1 = false → JE X W (.BoolOp .Or (b :: rest) pos) s (.ok d) s) (h3 : β1 = true → d = .bl true) : JE X W (.BoolOp .Or (e :: b :: rest) pos) s (.ok d) s :=
  je_of (pe_or pe_w pe_w) fun as B H σ ok Q q => Ok.one h ok fun x B1 H1 e1 o1 r1 => by
    cases r1
    refine ⟨_, rfl, ?_⟩
    cases β1 with
    | false => exact iteF (Ok.one (h2 rfl) o1 fun x B2 H2 e2 o2 r2 => q _ B2 H2 (e1.trans e2) o2 r2)
    | true =>
      have z := h3 rfl
      subst z
      exact iteT (q _ B1 H1 e1 o1 (.bl _))
theorem je_if (ht : JT X c s β) (h1 : β = true → JE X W a s r s1) (h2 : β = false → JE X W b s r s1) : JE X W (.IfExp c a b pos) s r s1 := fun as B H σ ok Q q =>
  wE_of (pe_ifExp pt_w pe_w pe_w) (ht as B H σ ok _ fun B1 H1 e1 o1 => by
    have go : OutE X.K W as B1 H1 σ s1 Q r := by
      cases r with
      | ok d => exact fun v B2 H2 e2 o2 r2 => q v B2 H2 (e1.trans e2) o2 r2
      | er c => exact fun B2 H2 e2 o2 => q B2 H2 (e1.trans e2) o2
    cases β with
    | true => exact iteT (h1 rfl as B1 H1 σ o1 Q go)
    | false => exact iteF (h2 rfl as B1 H1 σ o1 Q go))

/-! ### built-in calls -/
/-- a call of one argument, by the rule of values -/
theorem je_call1 {id : String} {rr : List V → Hp → VK → Prop} (hc : CallR X (.builtin id) rr) (ha : JE X W a s (.ok da) s1)
    (h : ∀ as B H B1 H1 σ v Q, Ext as B H as B1 H1 → Ok X.K as B1 H1 σ s1 → Rep X.K B1 v da → (∀ v B' H', Ext as B H as B' H' → Ok X.K as B' H' σ s1 → Rep X.K B' v d → Q v H') → rr [v] H1 Q)
    (hm : X.mg x = none) (hv : bootBuiltins x = some (.builtin id)) (hg : Gl X x := by rfl) (hn : x ≠ "__name__" := by decide) (hdb : (x == ("__debug__" : Str)) = false := by decide)
    (he : starEach (a :: []) X.env = (false, eval a X.env) :: starEach [] X.env := by rfl) (hpl : (backTo pos (starEach [] X.env)).any (·.1) = false := by rfl) : JE X W (.Call (.Name x p) [a] [] pos) s (.ok d) s1 :=
  je_of (pe_callB hc hg hm hv (pa_cons pe_w pa_nil he) hn hdb he hpl) fun as B H σ ok Q q => Ok.one ha ok fun v B1 H1 e1 o1 r1 => h as B H B1 H1 σ v Q e1 o1 r1 q
theorem je_callT {id : String} {rr : List V → Hp → VK → Prop} (hc : CallR X (.type id) rr) (ha : JE X W a s (.ok da) s1)
    (h : ∀ as B H B1 H1 σ v Q, Ext as B H as B1 H1 → Ok X.K as B1 H1 σ s1 → Rep X.K B1 v da → (∀ v B' H', Ext as B H as B' H' → Ok X.K as B' H' σ s1 → Rep X.K B' v d → Q v H') → rr [v] H1 Q)
    (hm : X.mg x = none) (hv : bootBuiltins x = some (.type id)) (hg : Gl X x := by rfl) (hn : x ≠ "__name__" := by decide) (hdb : (x == ("__debug__" : Str)) = false := by decide)
    (he : starEach (a :: []) X.env = (false, eval a X.env) :: starEach [] X.env := by rfl) (hpl : (backTo pos (starEach [] X.env)).any (·.1) = false := by rfl) : JE X W (.Call (.Name x p) [a] [] pos) s (.ok d) s1 :=
  je_of (pe_callTy hc hg hm hv (pa_cons pe_w pa_nil he) hn hdb he hpl) fun as B H σ ok Q q => Ok.one ha ok fun v B1 H1 e1 o1 r1 => h as B H B1 H1 σ v Q e1 o1 r1 q
theorem jf_callT {id : String} {rr : List V → Hp → VK → Prop} (hc : CallR X (.type id) rr) (ha : JE X WN a s (.ok da) s1)
    (h : ∀ as B H B1 H1 σ v Q, Ext as B H as B1 H1 → Ok X.K as B1 H1 σ s1 → Rep X.K B1 v da → (∀ p vs B' H', Ext as B H as B' H' → Ok X.K as B' H' σ s1 → H p = none → B' p = none → H' p = some (.lst vs) → Reps X.K B' vs xs → Q (.ref p) H') → rr [v] H1 Q)
    (hm : X.mg x = none) (hv : bootBuiltins x = some (.type id)) (hg : Gl X x := by rfl) (hn : x ≠ "__name__" := by decide) (hdb : (x == ("__debug__" : Str)) = false := by decide)
    (he : starEach (a :: []) X.env = (false, eval a X.env) :: starEach [] X.env := by rfl) (hpl : (backTo pos (starEach [] X.env)).any (·.1) = false := by rfl) : JF X (.Call (.Name x p) [a] [] pos) s xs s1 :=
  jf_of (pe_callTy hc hg hm hv (pa_cons pe_w pa_nil he) hn hdb he hpl) fun as B H σ ok Q q => Ok.one (W := WN) ha ok fun v B1 H1 e1 o1 r1 => h as B H B1 H1 σ v Q e1 o1 r1 q
inductive LenD : D → Int → Prop
  | lst {xs : List D} : LenD (.lst xs) xs.length
  | tup {xs : List D} : LenD (.tup xs) xs.length
  | scr {xs : List Int} : LenD (.scr xs) xs.length
  | str {z : Str} (h : z.length ≤ sizeLine) : LenD (.str z) z.length
theorem je_len {n : Int} (hm : X.mg "len" = none) (ha : JE X W a s (.ok da) s1) (h : LenD da n) (hg : Gl X "len" := by rfl)
    (he : starEach (a :: []) X.env = (false, eval a X.env) :: starEach [] X.env := by rfl) (hpl : (backTo pos (starEach [] X.env)).any (·.1) = false := by rfl) : JE X W (.Call (.Name "len" p) [a] [] pos) s (.ok (.int n)) s1 := by
  cases h with
  | lst => exact je_call1 call_len_seq ha (fun as B H B1 H1 σ v Q e1 o1 r1 q => by
      cases r1 with
      | lst h1 h2 => exact ⟨_, _, rfl, .inl (.inl (.inl (o1.sm _ _ h1))), by rw [h2.length]; exact q _ B1 H1 e1 o1 (.int _)⟩) hm PySem.boot_len hg (by decide) (by decide) he hpl
  | tup => exact je_call1 call_len_seq ha (fun as B H B1 H1 σ v Q e1 o1 r1 q => by
      cases r1 with
      | tup h1 h2 => exact ⟨_, _, rfl, .inr (same_t o1.sm h1), by rw [h2.length]; exact q _ B1 H1 e1 o1 (.int _)⟩) hm PySem.boot_len hg (by decide) (by decide) he hpl
  | scr => exact je_call1 call_len_seq ha (fun as B H B1 H1 σ v Q e1 o1 r1 q => by
      cases r1 with
      | scr h1 => exact ⟨_, _, rfl, .inl (o1.sm.seq h1), by rw [List.length_map]; exact q _ B1 H1 e1 o1 (.int _)⟩) hm PySem.boot_len hg (by decide) (by decide) he hpl
  | str hz => exact je_call1 call_len_str ha (fun as B H B1 H1 σ v Q e1 o1 r1 q => by
      cases r1
      exact ⟨_, rfl, hz, q _ B1 H1 e1 o1 (.int _)⟩) hm PySem.boot_len hg (by decide) (by decide) he hpl
theorem jf_list (hm : X.mg "list" = none) (ha : JE X WN a s (.ok da) s1) (hd : da = .lst xs ∨ da = .tup xs) (hg : Gl X "list" := by rfl)
    (he : starEach (a :: []) X.env = (false, eval a X.env) :: starEach [] X.env := by rfl) (hpl : (backTo pos (starEach [] X.env)).any (·.1) = false := by rfl) : JF X (.Call (.Name "list" p) [a] [] pos) s xs s1 := by
  rcases hd with rfl | rfl
  · exact jf_callT call_list_of ha (fun as B H B1 H1 σ v Q e1 o1 r1 q => by
      cases r1 with
      | lst h1 h2 => exact ⟨_, _, rfl, .inl (.inl (.inl (o1.sm _ _ h1))), fun p hp => Ok.newF e1 o1 hp h2 q⟩) hm (by decide +kernel) hg (by decide) (by decide) he hpl
  · exact jf_callT call_list_of ha (fun as B H B1 H1 σ v Q e1 o1 r1 q => by
      cases r1 with
      | tup h1 h2 => exact ⟨_, _, rfl, .inr (same_t o1.sm h1), fun p hp => Ok.newF e1 o1 hp h2 q⟩) hm (by decide +kernel) hg (by decide) (by decide) he hpl
theorem je_tuple (hm : X.mg "tuple" = none) (ha : JE X W a s (.ok (.lst xs)) s1) (hg : Gl X "tuple" := by rfl)
    (he : starEach (a :: []) X.env = (false, eval a X.env) :: starEach [] X.env := by rfl) (hpl : (backTo pos (starEach [] X.env)).any (·.1) = false := by rfl) : JE X W (.Call (.Name "tuple" p) [a] [] pos) s (.ok (.tup xs)) s1 :=
  je_callT call_tuple_of ha (fun as B H B1 H1 σ v Q e1 o1 r1 q => by
      cases r1 with
      | lst h1 h2 => exact ⟨_, _, rfl, .inl ⟨.inl (.inl (o1.sm _ _ h1)), fun p hp => by
          obtain ⟨o3, e3⟩ := o1.new (o := .tup _) hp
          exact q _ _ _ (e1.trans e3) o3 (.tup (.inl (.inl upd_same)) (h2.mono e3.b))⟩⟩) hm (by decide +kernel) hg (by decide) (by decide) he hpl
def b2i (b : Bool) : Int := if b then 1 else 0
theorem je_intB (hm : X.mg "int" = none) (ha : JE X W a s (.ok (.bl β)) s1) (hg : Gl X "int" := by rfl)
    (he : starEach (a :: []) X.env = (false, eval a X.env) :: starEach [] X.env := by rfl) (hpl : (backTo pos (starEach [] X.env)).any (·.1) = false := by rfl) : JE X W (.Call (.Name "int" p) [a] [] pos) s (.ok (.int (b2i β))) s1 :=
  je_callT call_int1 ha (fun as B H B1 H1 σ v Q e1 o1 r1 q => by
      cases r1
      exact .inr ⟨_, rfl, q _ B1 H1 e1 o1 (.int _)⟩) hm (by decide +kernel) hg (by decide) (by decide) he hpl
theorem je_strI {i : Int} (hm : X.mg "str" = none) (ha : JE X W a s (.ok (.int i)) s1) (hi : i.natAbs.log2 < 1920) (hg : Gl X "str" := by rfl)
    (he : starEach (a :: []) X.env = (false, eval a X.env) :: starEach [] X.env := by rfl) (hpl : (backTo pos (starEach [] X.env)).any (·.1) = false := by rfl) : JE X W (.Call (.Name "str" p) [a] [] pos) s (.ok (.str (toString i))) s1 :=
  je_callT call_str_int ha (fun as B H B1 H1 σ v Q e1 o1 r1 q => by
      cases r1
      exact ⟨_, rfl, hi, q _ B1 H1 e1 o1 (.str _)⟩) hm (by decide +kernel) hg (by decide) (by decide) he hpl
theorem je_all {bs : List Bool} {V : WX} (C : Cok X V k) (hm : X.mg "all" = none) (ha : JE X W a s (.ok (.lst (bs.map .bl))) s1) (hg : Gl X "all" := by rfl)
    (he : starEach (a :: []) X.env = (false, eval a X.env) :: starEach [] X.env := by rfl) (hpl : (backTo pos (starEach [] X.env)).any (·.1) = false := by rfl) : JE X W (.Call (.Name "all" p) [a] [] pos) s (.ok (.bl (bs.all id))) s1 :=
  je_call1 (cr_all C.calm) ha (fun as B H B1 H1 σ v Q e1 o1 r1 q => by
      cases r1 with
      | lst h1 h2 =>
        have z := h2.bls
        subst z
        exact ⟨_, bs, rfl, .inl (.inl (o1.sm _ _ h1)), q _ B1 H1 e1 o1 (.bl _)⟩) hm (by decide +kernel) hg (by decide) (by decide) he hpl
theorem je_any {bs : List Bool} {V : WX} (C : Cok X V k) (hm : X.mg "any" = none) (ha : JE X W a s (.ok (.lst (bs.map .bl))) s1) (hg : Gl X "any" := by rfl)
    (he : starEach (a :: []) X.env = (false, eval a X.env) :: starEach [] X.env := by rfl) (hpl : (backTo pos (starEach [] X.env)).any (·.1) = false := by rfl) : JE X W (.Call (.Name "any" p) [a] [] pos) s (.ok (.bl (bs.any id))) s1 :=
  je_call1 (cr_any C.calm) ha (fun as B H B1 H1 σ v Q e1 o1 r1 q => by
      cases r1 with
      | lst h1 h2 =>
        have z := h2.bls
        subst z
        exact ⟨_, bs, rfl, .inl (.inl (o1.sm _ _ h1)), q _ B1 H1 e1 o1 (.bl _)⟩) hm (by decide +kernel) hg (by decide) (by decide) he hpl
/-- the greatest, the least of a list of ints; a tuple of ints (min(t)) -/
theorem je_maxL {ns : List Int} {m : Int} {V : WX} (C : Cok X V k) (hm : X.mg "max" = none) (ha : JE X W a s (.ok (.lst (ns.map .int))) s1) (h1 : m ∈ ns) (h2 : ∀ y ∈ ns, y ≤ m) (hg : Gl X "max" := by rfl)
    (he : starEach (a :: []) X.env = (false, eval a X.env) :: starEach [] X.env := by rfl) (hpl : (backTo pos (starEach [] X.env)).any (·.1) = false := by rfl) : JE X W (.Call (.Name "max" p) [a] [] pos) s (.ok (.int m)) s1 :=
  je_call1 (cr_max C.calm) ha (fun as B H B1 H1 σ v Q e1 o1 r1 q => by
      cases r1 with
      | lst g1 g2 =>
        have z := g2.ints
        subst z
        refine ⟨_, ns, rfl, .inl (.inl (o1.sm _ _ g1)), List.length_pos_of_mem h1, fun m' hm' hle => ?_⟩
        have e : m' = m := Int.le_antisymm (h2 _ hm') (hle _ h1)
        subst e
        exact q _ B1 H1 e1 o1 (.int _)) hm (by decide +kernel) hg (by decide) (by decide) he hpl
theorem je_minL {ns : List Int} {m : Int} {V : WX} (C : Cok X V k) (hm : X.mg "min" = none) (ha : JE X W a s (.ok (.lst (ns.map .int))) s1) (h1 : m ∈ ns) (h2 : ∀ y ∈ ns, m ≤ y) (hg : Gl X "min" := by rfl)
    (he : starEach (a :: []) X.env = (false, eval a X.env) :: starEach [] X.env := by rfl) (hpl : (backTo pos (starEach [] X.env)).any (·.1) = false := by rfl) : JE X W (.Call (.Name "min" p) [a] [] pos) s (.ok (.int m)) s1 :=
  je_call1 (cr_min C.calm) ha (fun as B H B1 H1 σ v Q e1 o1 r1 q => by
      cases r1 with
      | lst g1 g2 =>
        have z := g2.ints
        subst z
        refine ⟨_, ns, rfl, .inl (.inl (o1.sm _ _ g1)), List.length_pos_of_mem h1, fun m' hm' hle => ?_⟩
        have e : m' = m := Int.le_antisymm (hle _ h1) (h2 _ hm')
        subst e
        exact q _ B1 H1 e1 o1 (.int _)) hm (by decide +kernel) hg (by decide) (by decide) he hpl
theorem je_max2 {i j : Int} {V : WX} (C : Cok X V k) (hm : X.mg "max" = none) (ha : JE X W a s (.ok (.int i)) s1) (hb : JE X W b s1 (.ok (.int j)) s2) (hg : Gl X "max" := by rfl)
    (h1 : starEach (b :: []) X.env = (false, eval b X.env) :: starEach [] X.env := by rfl) (he : starEach (a :: [b]) X.env = (false, eval a X.env) :: starEach [b] X.env := by rfl) (hpl : (backTo pos (starEach [b] X.env)).any (·.1) = false := by rfl) :
    JE X W (.Call (.Name "max" p) [a, b] [] pos) s (.ok (.int (max i j))) s2 :=
  je_of (pe_callB (call_max2 C.calm) hg hm (by decide +kernel) (pa_cons pe_w (pa_cons pe_w pa_nil h1) he) (by decide) (by decide) he hpl) fun as B H σ ok Q q => Ok.two ha hb ok fun x y B2 H2 e2 o2 rx ry => by
    cases rx; cases ry
    have e : (if j > i then j else i) = max i j := by omega
    exact ⟨i, j, rfl, by rw [e]; exact q _ B2 H2 e2 o2 (.int _)⟩
theorem je_min2 {i j : Int} {V : WX} (C : Cok X V k) (hm : X.mg "min" = none) (ha : JE X W a s (.ok (.int i)) s1) (hb : JE X W b s1 (.ok (.int j)) s2) (hg : Gl X "min" := by rfl)
    (h1 : starEach (b :: []) X.env = (false, eval b X.env) :: starEach [] X.env := by rfl) (he : starEach (a :: [b]) X.env = (false, eval a X.env) :: starEach [b] X.env := by rfl) (hpl : (backTo pos (starEach [b] X.env)).any (·.1) = false := by rfl) :
    JE X W (.Call (.Name "min" p) [a, b] [] pos) s (.ok (.int (min i j))) s2 :=
  je_of (pe_callB (call_min2 C.calm) hg hm (by decide +kernel) (pa_cons pe_w (pa_cons pe_w pa_nil h1) he) (by decide) (by decide) he hpl) fun as B H σ ok Q q => Ok.two ha hb ok fun x y B2 H2 e2 o2 rx ry => by
    cases rx; cases ry
    have e : (if j < i then j else i) = min i j := by omega
    exact ⟨i, j, rfl, by rw [e]; exact q _ B2 H2 e2 o2 (.int _)⟩
end
end DL
set_option Elab.async false
set_option linter.all false
set_option maxRecDepth 100000
set_option maxHeartbeats 4000000
set_option autoImplicit true
/-! DLe: statements, loops, comprehensions -/
namespace DL
open PySem PySem.Spec PyProof.Rows L2
/-! ### the widest readings -/
def wS (X : Cx) (st : Stmt) : TS := fun D σ H => ∀ (pins : List (Addr × Obj)) (s : Shared), Inv X pins σ H s → wpAny (model X.prog X.w) X.A (exec st X.env) (SP X pins D) X.xe s
theorem ps_w {X : Cx} {st : Stmt} : PS X st (wS X st) := ⟨fun pins s σ H D I h => h pins s I⟩
theorem wS_of {X : Cx} {st : Stmt} {t : TS} {D : Ends} {σ : L2.St} {H : Hp} (h : PS X st t) (q : t D σ H) : wS X st D σ H := fun pins s I => h.run pins s σ H D I q
def wB (X : Cx) (st : List Stmt) : TS := fun D σ H => ∀ (pins : List (Addr × Obj)) (s : Shared), Inv X pins σ H s → wpAny (model X.prog X.w) X.A (execs st X.env) (SP X pins D) X.xe s
theorem pss_w {X : Cx} {st : List Stmt} : PSs X st (wB X st) := ⟨fun pins s σ H D I h => h pins s I⟩
theorem wB_of {X : Cx} {st : List Stmt} {t : TS} {D : Ends} {σ : L2.St} {H : Hp} (h : PSs X st t) (q : t D σ H) : wB X st D σ H := fun pins s I => h.run pins s σ H D I q
def wG (X : Cx) (tg : Expr) : TG := fun v σ H Q => ∀ (pins : List (Addr × Obj)) (s : Shared) (u : Value), Inv X pins σ H s → RelV v u → wpAny (model X.prog X.w) X.A (assign tg X.env u) (fun _ s' => ∃ σ' H', Inv X pins σ' H' s' ∧ Q σ' H') X.xe s
def wGs (X : Cx) (tgs : List Expr) : TGs := fun vs σ H Q => ∀ (pins : List (Addr × Obj)) (s : Shared) (us : List Value), Inv X pins σ H s → Vals vs us → wpAny (model X.prog X.w) X.A (assignInOrder ((assignEach tgs X.env).map (·.2)) us) (fun _ s' => ∃ σ' H', Inv X pins σ' H' s' ∧ Q σ' H') X.xe s
theorem pgs_w {X : Cx} {tgs : List Expr} : PGs X tgs (wGs X tgs) := ⟨fun pins s σ H vs us Q I r h => h pins s us I r⟩
theorem wGs_of {X : Cx} {tgs : List Expr} {g : TGs} {vs : List V} {σ : L2.St} {H : Hp} {Q : L2.St → Hp → Prop} (h : PGs X tgs g) (q : g vs σ H Q) : wGs X tgs vs σ H Q := fun pins s us I r => h.run pins s σ H vs us Q I r q
theorem pg_w {X : Cx} {tg : Expr} : PG X tg (wG X tg) := ⟨fun pins s σ H v u Q I r h => h pins s u I r⟩
theorem wG_of {X : Cx} {tg : Expr} {g : TG} {v : V} {σ : L2.St} {H : Hp} {Q : L2.St → Hp → Prop} (h : PG X tg g) (q : g v σ H Q) : wG X tg v σ H Q := fun pins s u I r => h.run pins s σ H v u Q I r q
def wI (X : Cx) (tg iter : Expr) : TI := fun σ H R => ∀ (pins : List (Addr × Obj)) (s : Shared), Inv X pins σ H s →
    wpAny (model X.prog X.w) X.A (eval iter X.env) (fun lv t1 => wpAny (model X.prog X.w) X.A (pyIter lv) (PIE X pins σ tg R) X.xe t1) X.xe s
theorem pi_w {X : Cx} {tg iter : Expr} : PI X tg iter (wI X tg iter) := ⟨fun pins s σ H R I h => h pins s I⟩
theorem wI_of {X : Cx} {tg iter : Expr} {t : TI} {σ : L2.St} {H : Hp} {R : It → Hp → Prop} (h : PI X tg iter t) (q : t σ H R) : wI X tg iter σ H R := fun pins s I => h.run pins s σ H R I q

/-- what is wanted behind a statement: next, return, break, continue, an error -/
structure Po where
  nx : A → Prop
  rt : D → List Cl → Prop
  bk : A → Prop
  ct : A → Prop
  ex : Addr → A → Prop
structure Fits (K : PySem.W.Frag) (W : WX) (as : List Addr) (B H : Hp) (P : Po) (Dn : Ends) : Prop where
  nx : ∀ as' B' H' σ' s', Ext as B H as' B' H' → Ok K as' B' H' σ' s' → P.nx s' → Dn.nx σ' H'
  rt : ∀ as' B' H' σ' s' v d, Ext as B H as' B' H' → Ok K as' B' H' σ' s' → Rep K B' v d → P.rt d s'.cl → Dn.rt v H'
  bk : ∀ as' B' H' σ' s', Ext as B H as' B' H' → Ok K as' B' H' σ' s' → P.bk s' → Dn.bk σ' H'
  ct : ∀ as' B' H' σ' s', Ext as B H as' B' H' → Ok K as' B' H' σ' s' → P.ct s' → Dn.ct σ' H'
  ex : ∀ as' B' H' σ' s' c, Ext as B H as' B' H' → Ok K as' B' H' σ' s' → P.ex c s' → W (.ref c) none σ' H'
theorem Fits.on {K : PySem.W.Frag} {W : WX} {as as1 : List Addr} {B H B1 H1 : Hp} {P : Po} {Dn : Ends} (f : Fits K W as B H P Dn) (e : Ext as B H as1 B1 H1) : Fits K W as1 B1 H1 P Dn :=
  ⟨fun as' B' H' σ' s' x => f.nx as' B' H' σ' s' (e.trans x), fun as' B' H' σ' s' v d x => f.rt as' B' H' σ' s' v d (e.trans x), fun as' B' H' σ' s' x => f.bk as' B' H' σ' s' (e.trans x), fun as' B' H' σ' s' x => f.ct as' B' H' σ' s' (e.trans x), fun as' B' H' σ' s' c x => f.ex as' B' H' σ' s' c (e.trans x)⟩
def JS (X : Cx) (W : WX) (st : Stmt) (s : A) (P : Po) : Prop := ∀ as B H σ, Ok X.K as B H σ s → ∀ Dn : Ends, Fits X.K W as B H P Dn → wS X st Dn σ H
def JB (X : Cx) (W : WX) (st : List Stmt) (s : A) (P : Po) : Prop := ∀ as B H σ, Ok X.K as B H σ s → ∀ Dn : Ends, Fits X.K W as B H P Dn → wB X st Dn σ H
/-- the item d is stored at a target -/
def JG (X : Cx) (tg : Expr) (d : D) (s : A) (R : A → Prop) : Prop := ∀ as B H σ v, Ok X.K as B H σ s → Rep X.K B v d → ∀ Q : L2.St → Hp → Prop, (∀ σ' s', Ok X.K as B H σ' s' → R s' → Q σ' H) → wG X tg v σ H Q
def JGs (X : Cx) (tgs : List Expr) (ds : List D) (s : A) (R : A → Prop) : Prop := ∀ as B H σ vs, Ok X.K as B H σ s → Reps X.K B vs ds → ∀ Q : L2.St → Hp → Prop, (∀ σ' s', Ok X.K as B H σ' s' → R s' → Q σ' H) → wGs X tgs vs σ H Q
/-- an iterator that gives ds, one by one, while B stays -/
structure ItD (K : PySem.W.Frag) (B : Hp) (J : It) (ds : List D) : Prop where
  go : ∀ i H, i < ds.length → Same B H → J.go i H
  stop : ∀ H, Same B H → J.stop ds.length H
  yld : ∀ i H v H', i < ds.length → Same B H → J.yld i H v H' → H' = H ∧ ∃ d, ds[i]? = some d ∧ Rep K B v d
def JI (X : Cx) (tg iter : Expr) (s : A) (ds : List D) (s' : A) : Prop := ∀ as B H σ, Ok X.K as B H σ s → ∀ R : It → Hp → Prop, (∀ J B' H', Ext as B H as B' H' → Ok X.K as B' H' σ s' → ItD X.K B' J ds → R J H') → wI X tg iter σ H R

section
variable {X : Cx} {W : WX} {k : Nat} {e a b c tg iter : Expr} {es rest tgs : List Expr} {st : Stmt} {sts body orelse : List Stmt} {s s' s1 s2 s3 : A} {P : Po} {d d' da db dc : D} {r : Res} {ds : List D} {xs ys : List D} {pos p2 p apos pos' : Pos} {x : Str} {β β1 β2 : Bool} {op : CmpOp} {l : List Sl}
theorem jb_nil (h : P.nx s) : JB X W [] s P := fun as B H σ ok Dn f => wB_of pss_nil (f.nx as B H σ s (Ext.refl ..) ok h)
/-- the end, some slots forgotten -/
theorem jb_end (e : Les s.sl l) (h : P.nx ⟨l, s.cl⟩) : JB X W [] s P := fun as B H σ ok Dn f => wB_of pss_nil (f.nx as B H σ _ (Ext.refl ..) (ok.less e) h)
theorem jb_less (e : Les s.sl l) (h : JB X W sts ⟨l, s.cl⟩ P) : JB X W sts s P := fun as B H σ ok Dn f => h as B H σ (ok.less e) Dn f
theorem jb_cons (h : JS X W st s { P with nx := fun s' => JB X W sts s' P }) : JB X W (st :: sts) s P := fun as B H σ ok Dn f =>
  wB_of (pss_cons ps_w pss_w) (h as B H σ ok { Dn with nx := wB X sts Dn } ⟨fun as' B' H' σ' s' x o z => z as' B' H' σ' o Dn (f.on x), f.rt, f.bk, f.ct, f.ex⟩)
/-- .. what is between is told by a word -/
theorem jb_cut (M : A → Prop) (h : JS X W st s { P with nx := M }) (k : ∀ s', M s' → JB X W sts s' P) : JB X W (st :: sts) s P :=
  jb_cons fun as B H σ ok Dn f => h as B H σ ok Dn ⟨fun as' B' H' σ' s' x o z => f.nx as' B' H' σ' s' x o (k s' z), f.rt, f.bk, f.ct, f.ex⟩
theorem jb_one (h : JS X W st s P) : JB X W [st] s P := jb_cons fun as B H σ ok Dn f => h as B H σ ok Dn ⟨fun as' B' H' σ' s' x o z => f.nx as' B' H' σ' s' x o (jb_nil z), f.rt, f.bk, f.ct, f.ex⟩
theorem js_of {t : TS} (h : PS X st t) (k : ∀ as B H σ, Ok X.K as B H σ s → ∀ Dn : Ends, Fits X.K W as B H P Dn → t Dn σ H) : JS X W st s P := fun as B H σ ok Dn f => wS_of h (k as B H σ ok Dn f)
/-! ### small statements -/
theorem js_pass (h : P.nx s) : JS X W (.Pass pos) s P := js_of ps_pass fun as B H σ ok Dn f => f.nx as B H σ s (Ext.refl ..) ok h
theorem js_break (h : P.bk s) : JS X W (.Break pos) s P := js_of ps_break fun as B H σ ok Dn f => f.bk as B H σ s (Ext.refl ..) ok h
theorem js_cont (h : P.ct s) : JS X W (.Continue pos) s P := js_of ps_continue fun as B H σ ok Dn f => f.ct as B H σ s (Ext.refl ..) ok h
theorem js_doc {z : Str} {j : Nat} (h : P.nx s) : JS X W (.Expr (.Constant (.str z) j pos) pos') s P := js_of ps_doc fun as B H σ ok Dn f => f.nx as B H σ s (Ext.refl ..) ok h
/-- x = e, i x's place -/
theorem js_set (i : Nat) {cl : List Cl} (C : Cok X W k) (he : JE X W e s (.ok d) s1) (hP : P.nx ⟨l, cl⟩) (hl : s1.sl.set i (.d d) = l := by (first | (dsimp only [List.set, List.length_cons, List.length_nil, List.cons_append, List.nil_append, Nat.reduceAdd]; done) | (dsimp only [List.set, List.length_cons, List.length_nil, List.cons_append, List.nil_append, Nat.reduceAdd]; exact rfl) | exact rfl)) (hcl : s1.cl = cl := by (first | (dsimp only [List.set, List.length_cons, List.length_nil, List.cons_append, List.nil_append, Nat.reduceAdd]; done) | (dsimp only [List.set, List.length_cons, List.length_nil, List.cons_append, List.nil_append, Nat.reduceAdd]; exact rfl) | exact rfl)) (hi : X.N[i]? = some x := by rfl) (hx : Loc X.env.scope x := by first | exact .inl rfl | exact .inr rfl) (hn : i < s1.sl.length := by exact of_decide_eq_true rfl) (hs : swapsWith e (some (.Name x pos')) pos.line X.env = pure false := by rfl) (hf : X.fn x = true ∨ X.env.scope.names.lookup x = some .local := by first | exact .inl rfl | exact .inr rfl) :
    JS X W (.Assign [.Name x pos'] e pos) s P := js_of (ps_set C.nd hi hx pe_w hs hf) fun as B H σ ok Dn f => he as B H σ ok _ fun v B' H' x o r => by
  have o2 := o.store (i := i) (o := some v) (x := .d d) hn ⟨v, rfl, r⟩
  rw [hl] at o2
  rw [← hcl] at hP
  exact f.nx as B' H' _ _ x o2 hP
theorem js_setE (i : Nat) {ce : Addr} (C : Cok X W k) (he : JE X W e s (.er ce) s1) (hP : P.ex ce s1) (hi : X.N[i]? = some x := by rfl) (hx : Loc X.env.scope x := by first | exact .inl rfl | exact .inr rfl) (hs : swapsWith e (some (.Name x pos')) pos.line X.env = pure false := by rfl) (hf : X.fn x = true ∨ X.env.scope.names.lookup x = some .local := by first | exact .inl rfl | exact .inr rfl) :
    JS X W (.Assign [.Name x pos'] e pos) s P := js_of (ps_set C.nd hi hx pe_w hs hf) fun as B H σ ok Dn f => he as B H σ ok _ fun B' H' x o => f.ex as B' H' _ _ _ x o hP
/-- x = e, a new list, to be changed: a cell -/
theorem Ok.adopt {K : PySem.W.Frag} {as : List Addr} {B H : Hp} {σ : L2.St} {p : Addr} {vs : List V} {xs : List D} (h : Ok K as B H σ s) (hp : p ∉ as) (hB : B p = none) (hH : H p = some (.lst vs)) (hv : Reps K B vs xs) : Ok K (as ++ [p]) B H σ ⟨s.sl, s.cl ++ [.lst xs]⟩ := by
  have hl := h.cs.1
  have split : ∀ {j : Nat} {a : Addr} {d : Cl}, (as ++ [p])[j]? = some a → (s.cl ++ [Cl.lst xs])[j]? = some d → (as[j]? = some a ∧ s.cl[j]? = some d) ∨ (a = p ∧ d = .lst xs) := fun {j a d} h1 h2 => by
    by_cases hj : j < as.length
    · rw [List.getElem?_append_left hj] at h1
      rw [List.getElem?_append_left (by omega)] at h2
      exact .inl ⟨h1, h2⟩
    · rw [List.getElem?_append_right (by omega)] at h1
      rw [List.getElem?_append_right (by omega)] at h2
      rw [hl] at h1
      cases e : j - s.cl.length with
      | zero => rw [e] at h1 h2; simp at h1 h2; exact .inr ⟨h1.symm, h2.symm⟩
      | succ n => rw [e] at h1; simp at h1
  refine ⟨h.sm, ?_, fun a ha => ?_, fun j a d h1 h2 h3 => ?_, ⟨by simp [hl], fun j a d h1 h2 => ?_⟩, h.ln, fun i x hx => (h.sl i x hx).mono (fun _ _ e => e) ⟨[p], rfl⟩⟩
  · rw [List.nodup_append]
    refine ⟨h.nd, by simp, fun a ha b hb => ?_⟩
    rw [List.mem_singleton.mp hb]
    exact fun z => hp (by rw [← z]; exact ha)
  · rcases List.mem_append.mp ha with ha | ha
    · exact h.ht a ha
    · rw [List.mem_singleton.mp ha, hH]; exact fun z => nomatch z
  · rcases split h1 h2 with ⟨h1, h2⟩ | ⟨rfl, rfl⟩
    · exact h.nb j a d h1 h2 h3
    · exact hB
  · rcases split h1 h2 with ⟨h1, h2⟩ | ⟨rfl, rfl⟩
    · exact (h.cs.2 j a d h1 h2).mono (fun _ _ e => e) ⟨[p], rfl⟩ fun _ u e => e
    · exact ⟨vs, hH, hv⟩
theorem Ext.adopt {as : List Addr} {B H B' H' : Hp} {p : Addr} (x : Ext as B H as B' H') (hp : H p = none) : Ext as B H (as ++ [p]) B' H' :=
  ⟨x.b, x.k, x.n, ⟨[p], rfl, fun a ha => by rw [List.mem_singleton.mp ha]; exact hp⟩, x.t⟩
theorem js_new (i : Nat) (C : Cok X W k) {cl : List Cl} (he : JF X e s xs s1) (hP : P.nx ⟨l, cl⟩) (hl : s1.sl.set i (.c s1.cl.length) = l := by (first | (dsimp only [List.set, List.length_cons, List.length_nil, List.cons_append, List.nil_append, Nat.reduceAdd]; done) | (dsimp only [List.set, List.length_cons, List.length_nil, List.cons_append, List.nil_append, Nat.reduceAdd]; exact rfl) | exact rfl)) (hcl : s1.cl ++ [.lst xs] = cl := by (first | (dsimp only [List.set, List.length_cons, List.length_nil, List.cons_append, List.nil_append, Nat.reduceAdd]; done) | (dsimp only [List.set, List.length_cons, List.length_nil, List.cons_append, List.nil_append, Nat.reduceAdd]; exact rfl) | exact rfl)) (hi : X.N[i]? = some x := by rfl) (hx : Loc X.env.scope x := by first | exact .inl rfl | exact .inr rfl) (hn : i < s1.sl.length := by exact of_decide_eq_true rfl) (hs : swapsWith e (some (.Name x pos')) pos.line X.env = pure false := by rfl) (hf : X.fn x = true ∨ X.env.scope.names.lookup x = some .local := by first | exact .inl rfl | exact .inr rfl) :
    JS X W (.Assign [.Name x pos'] e pos) s P := js_of (ps_set C.nd hi hx pe_w hs hf) fun as B H σ ok Dn f => he as B H σ ok _ fun p vs B' H' x o hp hB hH hr => by
  have o1 := o.adopt (free_lt ok hp) hB hH hr
  have hl1 := o.cs.1
  have o2 := o1.store (i := i) (o := some (.ref p)) (x := .c s1.cl.length) hn ⟨p, by rw [← hl1, List.getElem?_append_right (Nat.le_refl _)]; simp, rfl⟩
  dsimp only at o2
  rw [hl] at o2
  rw [← hcl] at hP
  exact f.nx _ B' H' _ _ (x.adopt hp) o2 hP
/-- the cell of slot i becomes a value -/
theorem js_freeze (i j : Nat) {cl : List Cl} (h : JS X W st ⟨l, cl⟩ P) (hi : s.sl[i]? = some (.c j) := by rfl) (hc : s.cl[j]? = some (.lst xs) := by rfl) (hl : s.sl.set i (.d (.lst xs)) = l := by (first | (dsimp only [List.set, List.length_cons, List.length_nil, List.cons_append, List.nil_append, Nat.reduceAdd]; done) | (dsimp only [List.set, List.length_cons, List.length_nil, List.cons_append, List.nil_append, Nat.reduceAdd]; exact rfl) | exact rfl)) (hcl : s.cl.set j .dead = cl := by (first | (dsimp only [List.set, List.length_cons, List.length_nil, List.cons_append, List.nil_append, Nat.reduceAdd]; done) | (dsimp only [List.set, List.length_cons, List.length_nil, List.cons_append, List.nil_append, Nat.reduceAdd]; exact rfl) | exact rfl)) : JS X W st s P := fun as B H σ ok Dn f => by
  obtain ⟨a, e1, ha⟩ := cell_of ok hi
  obtain ⟨vs, hH, hv⟩ := ok.cs.2 j a _ ha hc
  obtain ⟨o1, x1⟩ := ok.freeze ha hc True.intro hH
  have o2 := o1.tell (i := i) (x := .d (.lst xs)) ⟨.ref a, by rw [e1]; rfl, .lst upd_same (hv.mono x1.b)⟩
  dsimp only at o2
  rw [hl, hcl] at o2
  exact h as _ H σ o2 Dn (f.on x1)
theorem jb_freeze (i j : Nat) {cl : List Cl} (h : JB X W sts ⟨l, cl⟩ P) (hi : s.sl[i]? = some (.c j) := by rfl) (hc : s.cl[j]? = some (.lst xs) := by rfl) (hl : s.sl.set i (.d (.lst xs)) = l := by (first | (dsimp only [List.set, List.length_cons, List.length_nil, List.cons_append, List.nil_append, Nat.reduceAdd]; done) | (dsimp only [List.set, List.length_cons, List.length_nil, List.cons_append, List.nil_append, Nat.reduceAdd]; exact rfl) | exact rfl)) (hcl : s.cl.set j .dead = cl := by (first | (dsimp only [List.set, List.length_cons, List.length_nil, List.cons_append, List.nil_append, Nat.reduceAdd]; done) | (dsimp only [List.set, List.length_cons, List.length_nil, List.cons_append, List.nil_append, Nat.reduceAdd]; exact rfl) | exact rfl)) : JB X W sts s P := fun as B H σ ok Dn f => by
  obtain ⟨a, e1, ha⟩ := cell_of ok hi
  obtain ⟨vs, hH, hv⟩ := ok.cs.2 j a _ ha hc
  obtain ⟨o1, x1⟩ := ok.freeze ha hc True.intro hH
  have o2 := o1.tell (i := i) (x := .d (.lst xs)) ⟨.ref a, by rw [e1]; rfl, .lst upd_same (hv.mono x1.b)⟩
  dsimp only at o2
  rw [hl, hcl] at o2
  exact h as _ H σ o2 Dn (f.on x1)
theorem js_expr (he : JE X W e s (.ok d) s1) (hP : P.nx s1) (hs : swapsWith e none pos.line X.env = pure false := by rfl) : JS X W (.Expr e pos) s P := js_of (ps_expr pe_w hs) fun as B H σ ok Dn f => he as B H σ ok _ fun v B' H' x o r => f.nx as B' H' σ s1 x o hP
theorem js_exprE {ce : Addr} (he : JE X W e s (.er ce) s1) (hP : P.ex ce s1) (hs : swapsWith e none pos.line X.env = pure false := by rfl) : JS X W (.Expr e pos) s P := js_of (ps_expr pe_w hs) fun as B H σ ok Dn f => he as B H σ ok _ fun B' H' x o => f.ex as B' H' _ _ _ x o hP
theorem js_ret (he : JE X W e s (.ok d) s1) (hP : P.rt d s1.cl) : JS X W (.Return (some e) pos) s P := js_of (ps_ret pe_w) fun as B H σ ok Dn f => he as B H σ ok _ fun v B' H' x o r => f.rt as B' H' σ s1 v d x o r hP
theorem js_retE {ce : Addr} (he : JE X W e s (.er ce) s1) (hP : P.ex ce s1) : JS X W (.Return (some e) pos) s P := js_of (ps_ret pe_w) fun as B H σ ok Dn f => he as B H σ ok _ fun B' H' x o => f.ex as B' H' _ _ _ x o hP
theorem js_if (ht : JT X c s β) (h1 : β = true → JB X W body s P) (h2 : β = false → JB X W orelse s P) : JS X W (.If c body orelse pos) s P := js_of (ps_if pt_w pss_w pss_w) fun as B H σ ok Dn f => ht as B H σ ok _ fun B1 H1 e1 o1 => by
  cases β with
  | true => exact iteT (h1 rfl as B1 H1 σ o1 Dn (f.on e1))
  | false => exact iteF (h2 rfl as B1 H1 σ o1 Dn (f.on e1))
/-- l.append(e), l a cell -/
theorem js_app (i j : Nat) {cl : List Cl} (he : JE X WN e s (.ok d) s1) (hlen : xs.length < sizeLine) (hP : P.nx ⟨l, cl⟩) (hsl : s1.sl = l := by (first | (dsimp only [List.set, List.length_cons, List.length_nil, List.cons_append, List.nil_append, Nat.reduceAdd]; done) | (dsimp only [List.set, List.length_cons, List.length_nil, List.cons_append, List.nil_append, Nat.reduceAdd]; exact rfl) | exact rfl)) (hi : s.sl[i]? = some (.c j) := by rfl) (hc0 : ∃ zs, s.cl[j]? = some (.lst zs) := by exact ⟨_, rfl⟩) (hc : s1.cl[j]? = some (.lst xs) := by rfl) (hcl : s1.cl.set j (.lst (xs ++ [d])) = cl := by (first | (dsimp only [List.set, List.length_cons, List.length_nil, List.cons_append, List.nil_append, Nat.reduceAdd]; done) | (dsimp only [List.set, List.length_cons, List.length_nil, List.cons_append, List.nil_append, Nat.reduceAdd]; exact rfl) | exact rfl)) (hN : X.N[i]? = some x := by rfl)
    (hv : Vis X.env.scope x := by first | exact Or.inl rfl | exact Or.inr (Or.inl rfl) | exact Or.inr (Or.inr rfl)) (hd1 : (x == ("__debug__" : Str)) = false := by decide) (hd2 : (x == ("__classdict__" : Str)) = false := by decide)
    (hbase : attributeBase (.Name x p2) "append" X.env (eval (.Name x p2) X.env) = eval (.Name x p2) X.env := by rfl)
    (hfew : ((backTo p (starEach (e :: []) X.env)).all (fun x => !x.1) && (backToKw p (keywordEach [] X.env)).all (fun x => x.1.isSome)
      && decide ((e :: []).length + ([] : List Keyword).length + (if ([] : List Keyword).isEmpty then 0 else 1) < 30)) = true := by rfl)
    (hline : (apos.endLine == p.line) = true := by rfl) (hs : starEach (e :: []) X.env = (false, eval e X.env) :: starEach [] X.env := by rfl) (hplain : (backTo p (starEach [] X.env)).any (·.1) = false := by rfl)
    (hsw : swapsWith (.Call (.Attribute (.Name x p2) "append" apos) [e] [] p) none pos.line X.env = pure false := by rfl) :
    JS X W (.Expr (.Call (.Attribute (.Name x p2) "append" apos) [e] [] p) pos) s P :=
  js_of (ps_expr (pe_bm PySem.F.plainAttrs_list PySem.F.slot_list_append PySem.F.type_list_append mt_append (pe_var hN hv hd1 hd2) (pa_cons pe_w pa_nil hs) hbase hfew hline hs hplain) hsw) fun as B H σ ok Dn f => by
    obtain ⟨a, e1, ha⟩ := cell_of ok hi
    obtain ⟨zs, hz⟩ := hc0
    obtain ⟨us, hu, _⟩ := ok.cs.2 j a _ ha hz
    refine ⟨.ref a, e1, .inl ⟨rfl, _, .inl (.inl hu)⟩, Ok.one he ok fun v B1 H1 x1 o1 r1 => ?_⟩
    obtain ⟨vs, hH, hv⟩ := o1.cs.2 j a _ ha hc
    obtain ⟨o2, x2⟩ := o1.wr (o := .lst (vs ++ [v])) (c' := .lst (xs ++ [d])) ha hc True.intro ⟨_, upd_same, hv.append (.cons r1 .nil)⟩
    rw [hcl] at o2
    rw [← hsl] at hP
    exact ⟨a, vs, v, rfl, rfl, hH, by rw [hv.length]; exact hlen, f.nx as _ _ σ _ (x1.trans x2) o2 hP⟩
/-- l[e2] = e, l a cell -/
theorem js_setix (i j : Nat) {cl : List Cl} {n : Int} {m : Nat} (he : JE X WN e s (.ok d) s1) (hb : JE X WN b s1 (.ok (.int n)) s2) (hix : ixN xs.length n = some m) (hP : P.nx ⟨l, cl⟩) (hsl : s2.sl = l := by (first | (dsimp only [List.set, List.length_cons, List.length_nil, List.cons_append, List.nil_append, Nat.reduceAdd]; done) | (dsimp only [List.set, List.length_cons, List.length_nil, List.cons_append, List.nil_append, Nat.reduceAdd]; exact rfl) | exact rfl)) (hi : s1.sl[i]? = some (.c j) := by rfl) (hc : s2.cl[j]? = some (.lst xs) := by rfl) (hcl : s2.cl.set j (.lst (xs.set m d)) = cl := by (first | (dsimp only [List.set, List.length_cons, List.length_nil, List.cons_append, List.nil_append, Nat.reduceAdd]; done) | (dsimp only [List.set, List.length_cons, List.length_nil, List.cons_append, List.nil_append, Nat.reduceAdd]; exact rfl) | exact rfl)) (hN : X.N[i]? = some x := by rfl)
    (hv : Vis X.env.scope x := by first | exact Or.inl rfl | exact Or.inr (Or.inl rfl) | exact Or.inr (Or.inr rfl)) (hd1 : (x == ("__debug__" : Str)) = false := by decide) (hd2 : (x == ("__classdict__" : Str)) = false := by decide)
    (ha : ∀ v, assign (.Subscript (.Name x p2) b p) X.env v = (do
      let ov ← holding [v] (eval (.Name x p2) X.env)
      let iv ← holding [v, ov] (eval b X.env)
      standAt p; holding [v, ov, iv] (setItem ov iv v); release [v, ov, iv] []) := by intro _; rfl)
    (hs : swapsWithSole [.Subscript (.Name x p2) b p] e pos.line X.env = pure false := by rfl) (hw : swappedStores [.Subscript (.Name x p2) b p] e X.env = pure none := by rfl)
    (h1 : (assignEach [.Subscript (.Name x p2) b p] X.env).map (·.2) = [assign (.Subscript (.Name x p2) b p) X.env] := by rfl) :
    JS X W (.Assign [.Subscript (.Name x p2) b p] e pos) s P :=
  js_of (ps_asg pe_w (pg_sub (pe_var hN hv hd1 hd2) pe_w set_list ha) hs hw h1) fun as B H σ ok Dn f => Ok.one he ok fun v B1 H1 x1 o1 r1 => by
    obtain ⟨a, e1, ha⟩ := cell_of o1 hi
    refine ⟨.ref a, e1, Ok.one hb o1 fun y B2 H2 x2 o2 r2 => ?_⟩
    cases r2
    obtain ⟨vs, hH, hv⟩ := o2.cs.2 j a _ ha hc
    obtain ⟨o3, x3⟩ := o2.wr (o := .lst (vs.set m v)) (c' := .lst (xs.set m d)) ha hc True.intro ⟨_, upd_same, hv.set (r1.mono x2.b) m⟩
    rw [hcl] at o3
    rw [← hsl] at hP
    exact ⟨a, vs, n, m, rfl, rfl, hH, by rw [hv.length]; exact hix, f.nx as _ _ σ _ ((x1.trans x2).trans x3) o3 hP⟩

/-! ### targets -/
theorem jg_name (i : Nat) {R : A → Prop} {cl : List Cl} (hnd : X.N.Nodup) (hR : R ⟨l, cl⟩) (hl : s.sl.set i (.d d) = l := by (first | (dsimp only [List.set, List.length_cons, List.length_nil, List.cons_append, List.nil_append, Nat.reduceAdd]; done) | (dsimp only [List.set, List.length_cons, List.length_nil, List.cons_append, List.nil_append, Nat.reduceAdd]; exact rfl) | exact rfl)) (hcl : s.cl = cl := by (first | (dsimp only [List.set, List.length_cons, List.length_nil, List.cons_append, List.nil_append, Nat.reduceAdd]; done) | (dsimp only [List.set, List.length_cons, List.length_nil, List.cons_append, List.nil_append, Nat.reduceAdd]; exact rfl) | exact rfl)) (hi : X.N[i]? = some x := by rfl) (hx : Loc X.env.scope x := by first | exact .inl rfl | exact .inr rfl) (hn : i < s.sl.length := by exact of_decide_eq_true rfl) (hf : X.fn x = true ∨ X.env.scope.names.lookup x = some .local := by first | exact .inl rfl | exact .inr rfl) :
    JG X (.Name x pos) d s R := fun as B H σ v ok r Q q => wG_of (pg_name hnd hi hx hf) (by
  have o2 := ok.store (i := i) (o := some v) (x := .d d) hn ⟨v, rfl, r⟩
  rw [hl] at o2
  rw [← hcl] at hR
  exact q _ _ o2 hR)
theorem jgs_nil {R : A → Prop} (h : R s) : JGs X [] [] s R := fun as B H σ vs ok r Q q => by
  cases r
  exact wGs_of pgs_nil ⟨rfl, q σ s ok h⟩
theorem jgs_cons {R : A → Prop} (h : JG X e d s fun s' => JGs X tgs ds s' R) (hs : (assignEach (e :: tgs) X.env).map (·.2) = assign e X.env :: (assignEach tgs X.env).map (·.2) := by rfl) : JGs X (e :: tgs) (d :: ds) s R := fun as B H σ vs ok r Q q => by
  cases r with
  | @cons v vr _ _ r1 r2 => exact wGs_of (pgs_cons pg_w pgs_w hs) ⟨v, vr, rfl, h as B H σ v ok r1 _ fun σ' s' o z => z as B H σ' vr o r2 Q q⟩
theorem jg_tup {R : A → Prop} {j : Nat} {n : Nat} (C : X.calm = true) (h : JGs X es ds s R) (hl : ds.length = n) (hn : (assignEach es X.env).length = n := by rfl) (hst : (assignEach es X.env).findIdx? (·.1) = none := by rfl) : JG X (.Tuple es j pos) (.tup ds) s R :=
  fun as B H σ v ok r Q q => wG_of (pg_tup C pgs_w hn hst) (by
    cases r with
    | tup ha hv => exact ⟨_, _, rfl, same_t ok.sm ha, hv.length.trans hl, h as B H σ _ ok hv Q q⟩)
/-- target = e -/
theorem js_asg (he : JE X W e s (.ok d) s1) (hg : JG X tg d s1 P.nx) (hs : swapsWithSole [tg] e pos.line X.env = pure false := by rfl) (hw : swappedStores [tg] e X.env = pure none := by rfl)
    (h1 : (assignEach [tg] X.env).map (·.2) = [assign tg X.env] := by rfl) : JS X W (.Assign [tg] e pos) s P :=
  js_of (ps_asg pe_w pg_w hs hw h1) fun as B H σ ok Dn f => Ok.one he ok fun v B1 H1 x1 o1 r1 => hg as B1 H1 σ v o1 r1 _ fun σ' s' o z => f.nx as B1 H1 σ' s' x1 o z

/-! ### loops -/
theorem ji_list (h : JE X WN e s (.ok (.lst ds)) s1) : JI X tg e s ds s1 := fun as B H σ ok R q => wI_of (pi_list pe_w) (Ok.one h ok fun v B1 H1 x1 o1 r1 => by
  cases r1 with
  | @lst a vs _ ha hv =>
    refine ⟨a, rfl, ⟨vs, .inl (.inl (o1.sm _ _ ha))⟩, q _ B1 H1 x1 o1 ⟨fun i H' hi sm => ?_, fun H' sm => ?_, fun i H' w H'' hi sm y => ?_⟩⟩
    · have hl := hv.length
      exact ⟨vs, vs[i]'(by omega), .inl (.inl (sm _ _ ha)), List.getElem?_eq_getElem _⟩
    · exact ⟨vs, .inl (.inl (sm _ _ ha)), Nat.le_of_eq hv.length⟩
    · obtain ⟨e1, e2⟩ := y
      exact ⟨e1, hv.getV (e2 vs (.inl (.inl (sm _ _ ha))))⟩)
theorem ji_tup (h : JE X WN e s (.ok (.tup ds)) s1) : JI X tg e s ds s1 := fun as B H σ ok R q => wI_of (pi_tup pe_w) (Ok.one h ok fun v B1 H1 x1 o1 r1 => by
  cases r1 with
  | @tup a vs _ ha hv =>
    refine ⟨a, rfl, ⟨vs, same_t o1.sm ha⟩, q _ B1 H1 x1 o1 ⟨fun i H' hi sm => ?_, fun H' sm => ?_, fun i H' w H'' hi sm y => ?_⟩⟩
    · have hl := hv.length
      exact ⟨vs, vs[i]'(by omega), same_t sm ha, List.getElem?_eq_getElem _⟩
    · exact ⟨vs, same_t sm ha, Nat.le_of_eq hv.length⟩
    · obtain ⟨e1, e2⟩ := y
      exact ⟨e1, hv.getV (e2 vs (same_t sm ha))⟩)
def rngD (lo : Int) (n : Nat) : List D := (List.range n).map fun i => .int (lo + (i : Nat))
theorem rngD_len {lo : Int} {n : Nat} : (rngD lo n).length = n := by unfold rngD; rw [List.length_map, List.length_range]
theorem itd_range {K : PySem.W.Frag} {B : Hp} {lo : Int} {n : Nat} : ItD K B (Itr lo n) (rngD lo n) :=
  ⟨fun i H hi _ => by rw [rngD_len] at hi; exact hi, fun H _ => by rw [rngD_len]; exact Nat.le_refl _, fun i H v H' hi _ y => by
    obtain ⟨e1, e2⟩ := y
    rw [rngD_len] at hi
    subst e2
    exact ⟨e1, .int (lo + i), by unfold rngD; rw [List.getElem?_map, List.getElem?_range hi]; rfl, .int _⟩⟩
theorem itd_cast {K : PySem.W.Frag} {B : Hp} {lo : Int} {n : Nat} {f : Nat → D} (h : ∀ i, f i = .int (lo + (i : Nat))) : ItD K B (Itr lo n) ((List.range n).map f) := by
  have e : (List.range n).map f = rngD lo n := by
    unfold rngD
    exact List.map_congr_left fun i _ => h i
  rw [e]
  exact itd_range
theorem ji_range1 {n : Nat} (hm : X.mg "range" = none) (h : JE X WN a s (.ok (.int (n : Nat))) s1) (hn : n < 2 ^ 62) (hg : Gl X "range" := by rfl) (h1 : starEach [a] X.env = (false, eval a X.env) :: starEach [] X.env := by rfl) (hs : starEach [a] X.env = [(false, eval a X.env)] := by rfl) : JI X tg (.Call (.Name "range" p) [a] [] pos) s ((List.range n).map fun i : Nat => D.int (i : Nat)) s1 :=
  fun as B H σ ok R q => wI_of (pi_range1 hg hm (pa_cons pe_w pa_nil h1) hs) (Ok.one h ok fun v B1 H1 x1 o1 r1 => by
    cases r1
    exact ⟨n, rfl, by omega, by omega, q _ B1 H1 x1 o1 (itd_cast fun i => by rw [Int.zero_add])⟩)
theorem ji_range2 {lo hi : Nat} (hm : X.mg "range" = none) (h : JE X WN a s (.ok (.int (lo : Nat))) s1) (h' : JE X WN b s1 (.ok (.int (hi : Nat))) s2) (hn : lo < 2 ^ 62 ∧ hi < 2 ^ 62) (hg : Gl X "range" := by rfl) (h1 : starEach (b :: []) X.env = (false, eval b X.env) :: starEach [] X.env := by rfl) (h2 : starEach (a :: [b]) X.env = (false, eval a X.env) :: starEach [b] X.env := by rfl)
    (hs : starEach [a, b] X.env = [(false, eval a X.env), (false, eval b X.env)] := by rfl) (hs2 : starEach [b] X.env = [(false, eval b X.env)] := by rfl) : JI X tg (.Call (.Name "range" p) [a, b] [] pos) s ((List.range (hi - lo)).map fun i : Nat => D.int ((lo + i : Nat) : Int)) s2 :=
  fun as B H σ ok R q => wI_of (pi_range2 hg hm (pa_cons pe_w (pa_cons pe_w pa_nil h1) h2) hs hs2) (Ok.two h h' ok fun x y B2 H2 x2 o2 rx ry => by
    cases rx; cases ry
    have e : ((hi : Int) - (lo : Int)).toNat = hi - lo := by omega
    exact ⟨lo, hi, rfl, by omega, q _ B2 H2 x2 o2 (by rw [e]; exact itd_cast fun i => by rw [Int.natCast_add])⟩)
/-- for: I by the turn and the state -/
theorem js_for (I : Nat → A → Prop) (C : Cok X W k) (hi : JI X tg iter s ds s1) (h0 : I 0 s1) (hs : ∀ i d s', ds[i]? = some d → I i s' → JG X tg d s' fun s2 => JB X W body s2 { P with nx := I (i + 1), ct := I (i + 1), bk := P.nx }) (hd : ∀ s', I ds.length s' → P.nx s')
    (hf : ∀ x, foldedSetIterable iter X.env x = pure x := by intro _; rfl) : JS X W (.For tg iter body [] pos) s P :=
  js_of (ps_for C.hp C.calm pi_w pg_w pss_w hf) fun as B H σ ok Dn f => hi as B H σ ok _ fun J B1 H1 x1 o1 it => by
    refine ⟨fun i m σ' H' => m = ds.length - i ∧ i ≤ ds.length ∧ ∃ as' B' s', Ext as B1 H1 as' B' H' ∧ Ok X.K as' B' H' σ' s' ∧ I i s', ⟨ds.length, by simp, Nat.zero_le _, as, B1, s1, Ext.refl .., o1, h0⟩, ?_⟩
    rintro i m σ' H' ⟨rfl, hle, as', B', s', x2, o2, hI⟩
    have sm : Same B1 H' := x2.b.trans o2.sm
    by_cases hlt : i < ds.length
    · refine .inr ⟨it.go i H' hlt sm, fun σ2 H2 => ∃ as2 B2 s2, Ext as' B' H' as2 B2 H2 ∧ Ok X.K as2 B2 H2 σ2 s2 ∧ I (i + 1) s2, fun σ2 H2 ⟨as2, B2, s2, x3, o3, h3⟩ => ⟨ds.length - (i + 1), by omega, rfl, hlt, as2, B2, s2, x2.trans x3, o3, h3⟩, fun v H2 y => ?_⟩
      obtain ⟨rfl, d, hd', r⟩ := it.yld i H' v H2 hlt sm y
      refine hs i d s' hd' hI as' B' H2 σ' v o2 (r.mono x2.b) _ fun σ3 s3 o3 h3 => ?_
      exact h3 as' B' H2 σ3 o3 _ ⟨fun as4 B4 H4 σ4 s4 x4 o4 z => ⟨as4, B4, s4, x4, o4, z⟩, fun as4 B4 H4 σ4 s4 v d x4 => f.rt as4 B4 H4 σ4 s4 v d ((x1.trans x2).trans x4), fun as4 B4 H4 σ4 s4 x4 => f.nx as4 B4 H4 σ4 s4 ((x1.trans x2).trans x4),
        fun as4 B4 H4 σ4 s4 x4 o4 z => ⟨as4, B4, s4, x4, o4, z⟩, fun as4 B4 H4 σ4 s4 c x4 => f.ex as4 B4 H4 σ4 s4 c ((x1.trans x2).trans x4)⟩
    · have e : i = ds.length := by omega
      subst e
      exact .inl ⟨it.stop H' sm, f.nx as' B' H' σ' s' (x1.trans x2) o2 (hd s' hI)⟩
/-- while: I by a measure and the state -/
theorem js_while (I : Nat → A → Prop) (C : Cok X W k) {m0 : Nat} (h0 : I m0 s) (hs : ∀ m s', I m s' → ∃ β, JT X c s' β ∧ (β = true → JB X W body s' { P with nx := fun s2 => ∃ m', m' < m ∧ I m' s2, ct := fun s2 => ∃ m', m' < m ∧ I m' s2, bk := P.nx }) ∧ (β = false → P.nx s')) :
    JS X W (.While c body [] pos) s P :=
  js_of (ps_while C.hp pt_w pss_w) fun as B H σ ok Dn f => by
    refine ⟨fun m σ' H' => ∃ as' B' s', Ext as B H as' B' H' ∧ Ok X.K as' B' H' σ' s' ∧ I m s', ⟨m0, as, B, s, Ext.refl .., ok, h0⟩, ?_⟩
    rintro m σ' H' ⟨as', B', s', x1, o1, hI⟩
    obtain ⟨β, ht, h1, h2⟩ := hs m s' hI
    refine ht as' B' H' σ' o1 _ fun B2 H2 x2 o2 => ?_
    cases β with
    | true =>
      refine iteT ⟨fun σ3 H3 => ∃ m', m' < m ∧ ∃ as3 B3 s3, Ext as B H as3 B3 H3 ∧ Ok X.K as3 B3 H3 σ3 s3 ∧ I m' s3, fun σ3 H3 z => z, ?_⟩
      exact h1 rfl as' B2 H2 σ' o2 _ ⟨fun as4 B4 H4 σ4 s4 x4 o4 ⟨m', hm, z⟩ => ⟨m', hm, as4, B4, s4, (x1.trans x2).trans x4, o4, z⟩, fun as4 B4 H4 σ4 s4 v d x4 => f.rt as4 B4 H4 σ4 s4 v d ((x1.trans x2).trans x4), fun as4 B4 H4 σ4 s4 x4 => f.nx as4 B4 H4 σ4 s4 ((x1.trans x2).trans x4),
        fun as4 B4 H4 σ4 s4 x4 o4 ⟨m', hm, z⟩ => ⟨m', hm, as4, B4, s4, (x1.trans x2).trans x4, o4, z⟩, fun as4 B4 H4 σ4 s4 c x4 => f.ex as4 B4 H4 σ4 s4 c ((x1.trans x2).trans x4)⟩
    | false => exact iteF (f.nx as' B2 H2 σ' s' (x1.trans x2) o2 (h2 rfl))
end
end DL
set_option Elab.async false
set_option linter.all false
set_option maxRecDepth 100000
set_option maxHeartbeats 4000000
set_option autoImplicit true
/-! DLf: comprehensions, defs and their calls, raise -/
namespace DL
open PySem PySem.Spec PyProof.Rows L2

/-! ### comprehensions -/
section
variable {K : PySem.W.Frag} {as : List Addr} {B B' B0 H H0 H' : Hp} {σ : L2.St} {s : A} {p : Addr} {o : HO}
theorem Ok.poke (h : Ok K as B H σ s) (hp : p ∉ as) (hB : B p = none) : Ok K as B (upd H p o) σ s where
  sm := fun a u e => by rw [upd_ne (ne_of_none e hB)]; exact h.sm _ _ e
  nd := h.nd
  ht := fun a ha => by rw [upd_ne (fun z => hp (by rw [← z]; exact ha))]; exact h.ht a ha
  nb := h.nb
  cs := ⟨h.cs.1, fun j a c h1 h2 => (h.cs.2 j a c h1 h2).mono (fun _ _ e => e) ⟨[], by simp⟩ fun _ u e => by rw [upd_ne (fun z => hp (by rw [← z]; exact List.mem_of_getElem? h1))]; exact e⟩
  ln := h.ln
  sl := h.sl
theorem Ext.poke (x : Ext as B0 H0 as B H) (hp : H0 p = none) : Ext as B0 H0 as B (upd H p o) :=
  ⟨x.b, fun a u ha e => by rw [upd_ne (ne_of_none e hp)]; exact x.k a u ha e, x.n, ⟨[], by simp, fun _ z => nomatch z⟩, fun a ha => by
    by_cases e : a = p
    · rw [e] at ha; exact absurd hp ha
    · rw [upd_ne e]; exact x.t a ha⟩
end
def wipeL (sl : List Sl) : List Nat → List Sl
  | [] => sl
  | v :: vs => (wipeL sl vs).set v .u
theorem wipeL_length (sl : List Sl) : ∀ vs, (wipeL sl vs).length = sl.length
  | [] => rfl
  | v :: vs => by rw [wipeL, List.length_set, wipeL_length sl vs]
theorem Ok.wiped {K : PySem.W.Frag} {as : List Addr} {B H : Hp} {σ : L2.St} {s : A} (h : Ok K as B H σ s) : ∀ vs : List Nat, (∀ v ∈ vs, v < s.sl.length) → Ok K as B H (wipe σ vs) ⟨wipeL s.sl vs, s.cl⟩
  | [], _ => h
  | v :: vs, hv => by
    have z := Ok.wiped h vs fun w hw => hv w (List.mem_cons_of_mem _ hw)
    exact z.store (i := v) (o := none) (x := .u) (by rw [wipeL_length]; exact hv v List.mem_cons_self) True.intro
/-- a comprehension's target: what it does to the slots -/
structure Tgt (K : PySem.W.Frag) (g : TG) (vs : List Nat) (n : Nat) (upd : D → List Sl → List Sl → Prop) : Prop where
  lt : ∀ v ∈ vs, v < n
  go : ∀ {as B H σ s d v sl'}, Ok K as B H (wipe σ vs) s → s.sl.length = n → Rep K B v d → upd d s.sl sl' → ∀ Q : L2.St → Hp → Prop, (∀ σ', Ok K as B H σ' ⟨sl', s.cl⟩ → wipe σ' vs = wipe σ vs → Q σ' H) → g v (wipe σ vs) H Q
def updN (i : Nat) : D → List Sl → List Sl → Prop := fun d l m => l.set i (.d d) = m
def updP (i j : Nat) : D → List Sl → List Sl → Prop := fun d l m => ∃ d1 d2, d = .tup [d1, d2] ∧ (l.set i (.d d1)).set j (.d d2) = m
theorem tgt_name {K : PySem.W.Frag} {i n : Nat} (hi : i < n) : Tgt K (gName i) [i] n (updN i) where
  lt := fun v hv => by rw [List.mem_singleton.mp hv]; exact hi
  go := fun {as B H σ s d v sl'} ok hl r e Q q => by
    have o2 := ok.store (i := i) (o := some v) (x := .d d) (by omega) ⟨v, rfl, r⟩
    have e' : s.sl.set i (.d d) = sl' := e
    rw [e'] at o2
    refine q _ o2 ?_
    show ((σ.set i none).set i (some v)).set i none = σ.set i none
    rw [List.set_set, List.set_set]
theorem tgt_pair {K : PySem.W.Frag} {i j n : Nat} (hi : i < n) (hj : j < n) (hij : i ≠ j) : Tgt K (gTup K 2 (gCons (gName i) (gCons (gName j) gNil))) [i, j] n (updP i j) where
  lt := fun v hv => by
    rcases List.mem_cons.mp hv with e | hv
    · rw [e]; exact hi
    · rw [List.mem_singleton.mp hv]; exact hj
  go := fun {as B H σ s d v sl'} ok hl r e Q q => by
    obtain ⟨d1, d2, rfl, e'⟩ := e
    cases r with
    | tup ha hv =>
      cases hv with
      | @cons v1 _ _ _ r1 hv =>
        cases hv with
        | @cons v2 _ _ _ r2 hv =>
          cases hv
          refine ⟨_, _, rfl, same_t ok.sm ha, rfl, v1, [v2], rfl, v2, [], rfl, rfl, ?_⟩
          have o2 := ok.store (i := i) (o := some v1) (x := .d d1) (by omega) ⟨v1, rfl, r1⟩
          have o3 := o2.store (i := j) (o := some v2) (x := .d d2) (by rw [List.length_set]; omega) ⟨v2, rfl, r2⟩
          dsimp only at o3
          rw [e'] at o3
          refine q _ o3 ?_
          show (((((σ.set j none).set i none).set i (some v1)).set j (some v2)).set j none).set i none = (σ.set j none).set i none
          rw [List.set_set, List.set_set, List.set_comm _ _ (Ne.symm hij), List.set_comm _ _ (Ne.symm hij), List.set_comm _ _ hij, List.set_set]
          rw [List.set_comm _ _ (Ne.symm hij), List.set_set]
          exact List.set_comm _ _ hij
section
variable {X : Cx} {W : WX} {k : Nat} {e a b c tg iter elt : Expr} {es rest tgs ifs : List Expr} {st : Stmt} {sts body orelse : List Stmt} {s s' s1 s2 s3 : A} {P : Po} {d d' da db dc : D} {r : Res} {ds : List D} {xs ys : List D} {pos p2 p apos pos' : Pos} {x : Str} {β β1 β2 : Bool} {op : CmpOp} {l : List Sl} {scope : Scope} {own : List (Str × Nat)}
/-- what holds in every block of the comprehension -/
def Blk (X : Cx) (scope : Scope) (p : Cx → Prop) : Prop := ∀ (s : Shared) (H : Hp) (C : Addr) (cl : List (Str × Addr)) (fp : List Addr), p (X.blk s H scope (compEnvC scope cl C X.env) fp)
def tBE (X : Cx) (scope : Scope) (e : Expr) : TE := fun σ H Q => Blk X scope fun Y => wE Y e σ H Q
def tBT (X : Cx) (scope : Scope) (e : Expr) : TT := fun σ H Q => Blk X scope fun Y => wT Y e σ H Q
/-- the test of a comprehension -/
def JTs (X : Cx) (scope : Scope) (ifs : List Expr) (s : A) (β : Bool) : Prop := match ifs with
  | [] => β = true
  | [c] => Blk X scope fun Y => JT Y c s β
  | _ => False
def tBTs (X : Cx) (scope : Scope) (ifs : List Expr) : TT := match ifs with
  | [] => tYes
  | [c] => tBT X scope c
  | _ => fun _ _ _ => False
theorem pts_w (h : ifs.length ≤ 1) : Blk X scope fun Y => PTs Y ifs (tBTs X scope ifs) := fun s H C cl fp => by
  match ifs, h with
  | [], _ => exact pts_nil
  | [c], _ => exact pts_one ⟨fun pins s' σ H' Q I h => h s H C cl fp pins s' I⟩
theorem jts_run (h : JTs X scope ifs s β) {as : List Addr} {B H : Hp} {σ : L2.St} (ok : Ok X.K as B H σ s) {Q : Bool → Hp → Prop} (q : ∀ B' H', Ext as B H as B' H' → Ok X.K as B' H' σ s → Q β H') : tBTs X scope ifs σ H Q := by
  match ifs, h with
  | [], h =>
    have h' : β = true := h
    subst h'
    exact q B H (Ext.refl ..) ok
  | [c], h => exact fun s0 H0 C cl fp => h s0 H0 C cl fp as B H σ ok Q q
  | _ :: _ :: _, h => exact h.elim
/-- a comprehension comes to xs -/
structure Lc (X : Cx) (tg iter elt : Expr) (ifs : List Expr) (scope : Scope) (own : List (Str × Nat)) (g : TG) (s : A) (xs : List D) (s' : A) : Prop where
  blk : BlkOk X.N X.env.scope scope own
  h1 : ifs.length ≤ 1
  hg : Blk X scope fun Y => PG Y tg g
  run : ∀ as B H σ, Ok X.K as B H σ s → ∀ Q : VK, (∀ p vs B' H', Ext as B H as B' H' → Ok X.K as B' H' σ s' → H p = none → B' p = none → H' p = some (.lst vs) → Reps X.K B' vs xs → Q (.ref p) H') →
    tLc (wI X tg iter) g (tBTs X scope ifs) (tBE X scope elt) (own.map (·.2)) σ H Q
theorem lc_mk {g : TG} {up : D → List Sl → List Sl → Prop} (hi : JI X tg iter s ds s1) (T : Tgt X.K g (own.map (·.2)) s1.sl.length up) (hblk : BlkOk X.N X.env.scope scope own) (hifs : ifs.length ≤ 1) (hg : Blk X scope fun Y => PG Y tg g)
    (acc : Nat → List D) (cs : Nat → List Cl) (h0 : acc 0 = []) (c0 : cs 0 = s1.cl) (hlen : ∀ i, i < ds.length → (acc i).length < sizeLine)
    (hs : ∀ i d, ds[i]? = some d → ∃ sl' β, up d (wipeL s1.sl (own.map (·.2))) sl' ∧ JTs X scope ifs ⟨sl', cs i⟩ β ∧ (β = true → ∃ y, (Blk X scope fun Y => JE Y WN elt ⟨sl', cs i⟩ (.ok y) ⟨sl', cs (i + 1)⟩) ∧ acc (i + 1) = acc i ++ [y]) ∧ (β = false → cs (i + 1) = cs i ∧ acc (i + 1) = acc i)) :
    Lc X tg iter elt ifs scope own g s (acc ds.length) ⟨s1.sl, cs ds.length⟩ where
  blk := hblk
  h1 := hifs
  hg := hg
  run := fun as B H σ ok Q q => hi as B H σ ok _ fun J B1 H1 x1 o1 it => fun Dl hD => by
    have hDas : Dl ∉ as := free_lt o1 hD
    have hDB : B1 Dl = none := o1.sm.free hD
    have c0' : (⟨s1.sl, cs 0⟩ : A) = s1 := by rw [c0]
    refine ⟨fun i m H' => m = ds.length - i ∧ i ≤ ds.length ∧ ∃ B', Ext as B1 H1 as B' H' ∧ Ok X.K as B' H' σ ⟨s1.sl, cs i⟩ ∧ B' Dl = none ∧ ∃ vs, H' Dl = some (.lst vs) ∧ Reps X.K B' vs (acc i),
      ⟨ds.length, by simp, Nat.zero_le _, B1, (Ext.refl as B1 H1).poke hD, by rw [c0']; exact o1.poke hDas hDB, hDB, [], upd_same, by rw [h0]; exact .nil⟩, ?_⟩
    rintro i m H' ⟨rfl, hle, B', x2, o2, hB', vs, hv, hr⟩
    have sm : Same B1 H' := x2.b.trans o2.sm
    by_cases hlt : i < ds.length
    · refine .inr ⟨it.go i H' hlt sm, fun H2 => ∃ B2, Ext as B1 H1 as B2 H2 ∧ Ok X.K as B2 H2 σ ⟨s1.sl, cs (i + 1)⟩ ∧ B2 Dl = none ∧ ∃ vs, H2 Dl = some (.lst vs) ∧ Reps X.K B2 vs (acc (i + 1)), fun H2 z => ⟨ds.length - (i + 1), by omega, rfl, hlt, z⟩, fun v H2 y => ?_⟩
      obtain ⟨rfl, d, hd', rd⟩ := it.yld i H' v H2 hlt sm y
      obtain ⟨sl', β, hu, ht, hy, hn⟩ := hs i d hd'
      have ow := o2.wiped (own.map (·.2)) fun v hv => T.lt v hv
      refine T.go ow (wipeL_length _ _) (rd.mono x2.b) hu _ fun σ' o3 hw => ⟨hw, ?_⟩
      refine jts_run ht o3 fun B3 H3 x3 o4 => ?_
      have hD3 : H2 Dl ≠ none := ne_none hv
      have hB3 : B3 Dl = none := x3.n Dl hB' hD3 hDas
      have back : ∀ {B4 H4 c4 σ4 l4}, Ext as B' H2 as B4 H4 → Ok X.K as B4 H4 σ4 ⟨l4, c4⟩ → Ok X.K as B4 H4 σ ⟨s1.sl, c4⟩ := fun {B4 H4 c4 σ4 l4} x o => ⟨o.sm, o.nd, o.ht, o.nb, o.cs, o2.ln, fun i y hy => (o2.sl i y hy).mono x.b ⟨[], by simp⟩⟩
      cases β with
      | true =>
        obtain ⟨y, he, hacc⟩ := hy rfl
        refine iteT fun s0 H0 C0 cl0 fp0 => ?_
        refine he s0 H0 C0 cl0 fp0 as B3 H3 σ' o4 _ fun u B4 H4 x4 o5 r5 => ?_
        have hB4 : B4 Dl = none := x4.n Dl hB3 (x3.t Dl hD3) hDas
        have hv4 : H4 Dl = some (.lst vs) := x4.k Dl _ hDas (x3.k Dl _ hDas hv)
        refine ⟨vs, hv4, by rw [hr.length]; exact hlen i hlt, B4, ((x2.trans x3).trans x4).poke hD, (back (x3.trans x4) o5).poke hDas hB4, hB4, vs ++ [u], upd_same, ?_⟩
        rw [hacc]
        exact (hr.mono (x3.trans x4).b).append (.cons r5 .nil)
      | false =>
        obtain ⟨e1, e2⟩ := hn rfl
        refine iteF ⟨B3, x2.trans x3, ?_, hB3, vs, x3.k Dl _ hDas hv, by rw [e2]; exact hr.mono x3.b⟩
        rw [e1]
        exact back x3 o4
    · have e : i = ds.length := by omega
      subst e
      exact .inl ⟨it.stop H' sm, q Dl vs B' H' (x1.trans x2) o2 (x1.back hD) hB' hv hr⟩
theorem jf_lc {g : TG} (C : Cok X W k) (L : Lc X tg iter elt ifs scope own g s xs s') (hs : ∀ x, foldedSetIterable iter X.env x = pure x := by intro _; rfl) : JF X (.ListComp elt [⟨tg, iter, ifs, 0⟩] scope pos) s xs s' :=
  jf_of (pe_lc (te := tBE X scope elt) C.calm C.nd pi_w L.blk L.hg (pts_w L.h1) (fun s0 H0 C0 cl0 fp0 => ⟨fun pins s' σ H' Q I h => h s0 H0 C0 cl0 fp0 pins s' I⟩) hs) L.run
/-- y = [..], a plain local on the same line -/
theorem js_setLc (i : Nat) {g : TG} {spos py : Pos} {cl : List Cl} (C : Cok X W k) (L : Lc X tg iter elt ifs scope own g s xs s') (hP : P.nx ⟨l, cl⟩) (hl : s'.sl.set i (.d (.lst xs)) = l := by (first | (dsimp only [List.set, List.length_cons, List.length_nil, List.cons_append, List.nil_append, Nat.reduceAdd]; done) | (dsimp only [List.set, List.length_cons, List.length_nil, List.cons_append, List.nil_append, Nat.reduceAdd]; exact rfl) | exact rfl)) (hcl : s'.cl = cl := by (first | (dsimp only [List.set, List.length_cons, List.length_nil, List.cons_append, List.nil_append, Nat.reduceAdd]; done) | (dsimp only [List.set, List.length_cons, List.length_nil, List.cons_append, List.nil_append, Nat.reduceAdd]; exact rfl) | exact rfl)) (hy : X.N[i]? = some x := by rfl) (hyl : X.env.scope.names.lookup x = some .local := by rfl) (hn : i < s'.sl.length := by exact of_decide_eq_true rfl)
    (hsw : swapsWith (.ListComp elt [⟨tg, iter, ifs, 0⟩] scope pos) (some (.Name x py)) spos.line X.env = pure true := by exact sw_true rfl rfl rfl (by decide +kernel)) (hs : ∀ x, foldedSetIterable iter X.env x = pure x := by intro _; rfl) : JS X W (.Assign [.Name x py] (.ListComp elt [⟨tg, iter, ifs, 0⟩] scope pos) spos) s P :=
  js_of (ps_setLc (te := tBE X scope elt) C.calm C.nd hy hyl hsw pi_w L.blk L.hg (pts_w L.h1) (fun s0 H0 C0 cl0 fp0 => ⟨fun pins s' σ H' Q I h => h s0 H0 C0 cl0 fp0 pins s' I⟩) hs) fun as B H σ ok Dn f => by
    have je : ∀ Q : VK, (∀ v B' H', Ext as B H as B' H' → Ok X.K as B' H' σ s' → Rep X.K B' v (.lst xs) → Q v H') → tLc (wI X tg iter) g (tBTs X scope ifs) (tBE X scope elt) (own.map (·.2)) σ H Q := fun Q q => L.run as B H σ ok _ fun p vs B' H' x o hp hB hH hr => by
      have sB : Same B' (upd B' p (.lst vs)) := same_upd' hB
      refine q _ (upd B' p (.lst vs)) H' ⟨x.b.trans sB, x.k, fun y e1 e2 e3 => ?_, x.l, x.t⟩ ⟨fun y u e => ?_, o.nd, o.ht, fun j y c h1 h2 h3 => ?_, ⟨o.cs.1, fun j y c h1 h2 => (o.cs.2 j y c h1 h2).mono sB ⟨[], by simp⟩ fun _ _ z => z⟩, o.ln, fun i y hy => (o.sl i y hy).mono sB ⟨[], by simp⟩⟩ (.lst upd_same (hr.mono sB))
      · rw [upd_ne (fun z => e2 (by rw [z]; exact hp))]; exact x.n y e1 e2 e3
      · by_cases e1 : y = p
        · rw [e1, upd_same] at e; rw [e1, hH]; exact e
        · rw [upd_ne e1] at e; exact o.sm _ _ e
      · rw [upd_ne (fun z => free_lt ok hp (by rw [← z]; exact List.mem_of_getElem? h1))]; exact o.nb j y c h1 h2 h3
    refine je _ fun v B' H' x o r => ?_
    have o2 := o.store (i := i) (o := some v) (x := .d (.lst xs)) hn ⟨v, rfl, r⟩
    rw [hl] at o2
    rw [← hcl] at hP
    exact f.nx as B' H' _ _ x o2 hP
theorem js_newLc (i : Nat) {g : TG} {spos py : Pos} (C : Cok X W k) {cl : List Cl} (L : Lc X tg iter elt ifs scope own g s xs s') (hP : P.nx ⟨l, cl⟩) (hl : s'.sl.set i (.c s'.cl.length) = l := by (first | (dsimp only [List.set, List.length_cons, List.length_nil, List.cons_append, List.nil_append, Nat.reduceAdd]; done) | (dsimp only [List.set, List.length_cons, List.length_nil, List.cons_append, List.nil_append, Nat.reduceAdd]; exact rfl) | exact rfl)) (hcl : s'.cl ++ [.lst xs] = cl := by (first | (dsimp only [List.set, List.length_cons, List.length_nil, List.cons_append, List.nil_append, Nat.reduceAdd]; done) | (dsimp only [List.set, List.length_cons, List.length_nil, List.cons_append, List.nil_append, Nat.reduceAdd]; exact rfl) | exact rfl)) (hy : X.N[i]? = some x := by rfl) (hyl : X.env.scope.names.lookup x = some .local := by rfl) (hn : i < s'.sl.length := by exact of_decide_eq_true rfl)
    (hsw : swapsWith (.ListComp elt [⟨tg, iter, ifs, 0⟩] scope pos) (some (.Name x py)) spos.line X.env = pure true := by exact sw_true rfl rfl rfl (by decide +kernel)) (hs : ∀ x, foldedSetIterable iter X.env x = pure x := by intro _; rfl) : JS X W (.Assign [.Name x py] (.ListComp elt [⟨tg, iter, ifs, 0⟩] scope pos) spos) s P :=
  js_of (ps_setLc (te := tBE X scope elt) C.calm C.nd hy hyl hsw pi_w L.blk L.hg (pts_w L.h1) (fun s0 H0 C0 cl0 fp0 => ⟨fun pins s' σ H' Q I h => h s0 H0 C0 cl0 fp0 pins s' I⟩) hs) fun as B H σ ok Dn f => L.run as B H σ ok _ fun p vs B' H' x o hp hB hH hr => by
    have o1 := o.adopt (free_lt ok hp) hB hH hr
    have hl1 := o.cs.1
    have o2 := o1.store (i := i) (o := some (.ref p)) (x := .c s'.cl.length) hn ⟨p, by rw [← hl1, List.getElem?_append_right (Nat.le_refl _)]; simp, rfl⟩
    dsimp only at o2
    rw [hl] at o2
    rw [← hcl] at hP
    exact f.nx _ B' H' _ _ (x.adopt hp) o2 hP

/-! ### defs on values -/
/-- called with ds it comes to r -/
def spD (K : PySem.W.Frag) (pre : List D → Res → Prop) : Sp := fun vs H Q E => ∃ (B : Hp) (ds : List D) (r : Res), Same B H ∧ Reps K B vs ds ∧ pre ds r ∧ match r with
  | .ok d => ∀ v B' H', Ext [] B H [] B' H' → Same B' H' → Rep K B' v d → Q v H'
  | .er c => ∀ B' H', Ext [] B H [] B' H' → Same B' H' → E (.ref c) none H'
/-- a def as callers have it -/
structure Fn (P : Program) (w : World) (K : PySem.W.Frag) (mg : Str → Option Value) (base : Heap) (x : Str) (n k : Nat) (pre : List D → Res → Prop) : Prop where
  ex : ∃ (f : Addr) (fd : FuncData) (ps : List Str), ps.length = n ∧ FnOk P w K mg base (L2.CX P w) k f fd ps (spD K pre) ∧ mg x = some (.ref f) ∧ PySem.W.keepIn K (.ref f) = true ∧ Binds K fd ps []
theorem je_callE {n j : Nat} {pre : List D → Res → Prop} (C : Cok X W k) (F : Fn X.prog X.w X.K X.mg X.base x n j pre) (hk : j ≤ k) (ha : JD X (e :: es) s ds s1) (hp : pre ds r) (hg : Gl X x := by rfl) (hdb : (x == ("__debug__" : Str)) = false := by decide) (he : starEach (e :: es) X.env = (false, eval e X.env) :: starEach es X.env := by rfl) (hpl : (backTo pos (starEach es X.env)).any (·.1) = false := by rfl) :
    JE X W (.Call (.Name x p) (e :: es) [] pos) s r s1 := fun as B H σ ok Q q => by
  obtain ⟨f, fd, ps, hn, hf, hm, hkp, hb⟩ := F.ex
  refine wE_of (pe_callS hf (C.hr.mono hk) hg hm hkp hb (fun σ => passAt C.tk σ) pa_w hdb he hpl) (ha as B H σ ok _ fun vs B1 H1 x1 o1 r1 => ?_)
  refine ⟨B1, ds, r, o1.sm, r1, hp, ?_⟩
  have up : ∀ {B' H'}, Ext [] B1 H1 [] B' H' → Same B' H' → Ext as B1 H1 as B' H' ∧ Ok X.K as B' H' σ s1 := fun {B' H'} y sm => by
    have sH : Same H1 H' := fun a o e => y.k a o (fun z => nomatch z) e
    exact ⟨⟨y.b, fun a o _ e => sH _ _ e, fun a h1 h2 _ => y.n a h1 h2 (fun z => nomatch z), ⟨[], by simp, fun _ z => nomatch z⟩, y.t⟩,
      ⟨sm, o1.nd, fun a ha => y.t a (o1.ht a ha), fun j a c h1 h2 h3 => y.n a (o1.nb j a c h1 h2 h3) (o1.ht a (List.mem_of_getElem? h1)) (fun z => nomatch z), ⟨o1.cs.1, fun j a c h1 h2 => (o1.cs.2 j a c h1 h2).mono y.b ⟨[], by simp⟩ fun _ u e => sH _ _ e⟩, o1.ln, fun i z hz => (o1.sl i z hz).mono y.b ⟨[], by simp⟩⟩⟩
  cases r with
  | ok d =>
    intro v B' H' y sm rv
    obtain ⟨x2, o2⟩ := up y sm
    exact q v B' H' (x1.trans x2) o2 rv
  | er c =>
    intro B' H' y sm
    obtain ⟨x2, o2⟩ := up y sm
    exact q B' H' (x1.trans x2) o2
theorem je_call {V : WX} {n j : Nat} {pre : List D → Res → Prop} (C : Cok X V k) (F : Fn X.prog X.w X.K X.mg X.base x n j pre) (hk : j ≤ k) (ha : JD X (e :: es) s ds s1) (hp : pre ds (.ok d)) (hg : Gl X x := by rfl) (hdb : (x == ("__debug__" : Str)) = false := by decide) (he : starEach (e :: es) X.env = (false, eval e X.env) :: starEach es X.env := by rfl) (hpl : (backTo pos (starEach es X.env)).any (·.1) = false := by rfl) :
    JE X W (.Call (.Name x p) (e :: es) [] pos) s (.ok d) s1 := by
  have h : JE X V (.Call (.Name x p) (e :: es) [] pos) s (.ok d) s1 := je_callE (W := V) C F hk ha hp hg hdb he hpl
  exact h
/-- what a body on values is to reach -/
def PoR (r : Res) : Po := { nx := fun _ => r = .ok .non, rt := fun d _ => r = .ok d, bk := fun _ => False, ct := fun _ => False, ex := fun c _ => r = .er c }
/-- the slots at a body's start -/
def sl0 (N : List Str) (ds : List D) : List Sl := ds.map .d ++ List.replicate (N.length - ds.length) .u
theorem ok_start {K : PySem.W.Frag} {N : List Str} {B H : Hp} {vs : List V} (sm : Same B H) (r : Reps K B vs ds) (hl : ds.length ≤ N.length) : Ok K [] B H (L2.start N vs) ⟨sl0 N ds, []⟩ where
  sm := sm
  nd := List.nodup_nil
  ht := fun _ z => nomatch z
  nb := fun j a c h => by simp at h
  cs := ⟨rfl, fun j a c h => by simp at h⟩
  ln := by
    have := r.length
    simp [L2.start, sl0]
    omega
  sl := fun i x hx => by
    have hl2 := r.length
    have hx' : (ds.map Sl.d ++ List.replicate (N.length - ds.length) .u)[i]? = some x := hx
    unfold L2.start
    by_cases hi : i < ds.length
    · rw [List.getElem?_append_left (by simpa using hi), List.getElem?_map] at hx'
      rw [List.getElem?_append_left (by simp; omega), List.getElem?_map]
      cases q : ds[i]? with
      | none => rw [q] at hx'; cases hx'
      | some d =>
        rw [q] at hx'
        cases hx'
        obtain ⟨v, h1, h2⟩ := r.get q
        rw [h1]
        exact ⟨v, rfl, h2⟩
    · rw [List.getElem?_append_right (by simp; omega), List.getElem?_replicate] at hx'
      split at hx'
      · cases hx'; exact True.intro
      · cases hx'
section
variable {Pg : Program} {w : World} {K : PySem.W.Frag} {mg : Str → Option Value} {base : Heap}
theorem fn_okX {qual : Str} {f : Addr} {fd : FuncData} {N ps : List Str} {pre : List D → Res → Prop} (F : Fun K x qual st f fd) (S : FnScope N ps (defScope st)) (hb : Binds K fd ps []) (hm : mg x = some (.ref f)) (hlen : ∀ ds r, pre ds r → ds.length = ps.length) (hN : ps.length ≤ N.length := by (show _ ≤ _; decide))
    (body : ∀ (cdv : Value) (A : Around) (outer : List Env) (s : Shared) (H : Hp) (E : XK), Cok (cxOf (L2.CX Pg w) Pg w K mg base N qual (defScope st) f cdv A outer s H E) (fun cls d _ H => E cls d H) k → ∀ ds r, pre ds r →
      JB (cxOf (L2.CX Pg w) Pg w K mg base N qual (defScope st) f cdv A outer s H E) (fun cls d _ H => E cls d H) (defBody st) ⟨sl0 N ds, []⟩ (PoR r)) : FnOk Pg w K mg base (L2.CX Pg w) (k + 1) f fd ps (spD K pre) :=
  F.okX S (fun vs H Q E h => by
      obtain ⟨B, ds, r, _, hr, hp, _⟩ := h
      rw [hr.length]
      exact hlen ds r hp) (fun cdv A outer s H vs Q E hr h => by
      obtain ⟨B, ds, r, sm, hrep, hp, q⟩ := h
      refine ⟨_, pss_w, ?_⟩
      have C : Cok (cxOf (L2.CX Pg w) Pg w K mg base N qual (defScope st) f cdv A outer s H E) (fun cls d _ H => E cls d H) k := ⟨hr, takes_of rfl rfl rfl rfl, rfl, passes_of rfl, S.nd⟩
      refine body cdv A outer s H E C ds r hp [] B H _ (ok_start sm hrep (by rw [hlen ds r hp]; exact hN)) _ ⟨?_, ?_, ?_, ?_, ?_⟩
      · intro as' B' H' σ' s' x o z
        have z' : r = .ok .non := z
        subst z'
        exact q .non B' H' ⟨x.b, x.k, x.n, ⟨[], rfl, fun _ z => nomatch z⟩, x.t⟩ o.sm .non
      · intro as' B' H' σ' s' v d x o rv z
        have z' : r = .ok d := z
        subst z'
        exact q v B' H' ⟨x.b, x.k, x.n, ⟨[], rfl, fun _ z => nomatch z⟩, x.t⟩ o.sm rv
      · intro as' B' H' σ' s' x o z; exact z.elim
      · intro as' B' H' σ' s' x o z; exact z.elim
      · intro as' B' H' σ' s' c x o z
        have z' : r = .er c := z
        subst z'
        exact q B' H' ⟨x.b, x.k, x.n, ⟨[], rfl, fun _ z => nomatch z⟩, x.t⟩ o.sm)
theorem fn_ok {qual : Str} {f : Addr} {fd : FuncData} {N ps : List Str} {pre : List D → Res → Prop} (F : Fun K x qual st f fd) (S : FnScope N ps (defScope st)) (hb : Binds K fd ps []) (hm : mg x = some (.ref f)) (hlen : ∀ ds r, pre ds r → ds.length = ps.length) (hN : ps.length ≤ N.length := by (show _ ≤ _; decide))
    (body : ∀ (cdv : Value) (A : Around) (outer : List Env) (s : Shared) (H : Hp) (E : XK), Cok (cxOf (L2.CX Pg w) Pg w K mg base N qual (defScope st) f cdv A outer s H E) (fun cls d _ H => E cls d H) k → ∀ ds r, pre ds r →
      JB (cxOf (L2.CX Pg w) Pg w K mg base N qual (defScope st) f cdv A outer s H E) (fun cls d _ H => E cls d H) (defBody st) ⟨sl0 N ds, []⟩ (PoR r)) : Fn Pg w K mg base x ps.length (k + 1) pre where
  ex := ⟨f, fd, ps, rfl, fn_okX F S hb hm hlen hN body, hm, F.kp, hb⟩
end
/-! ### raise -/
structure ExcOf (K : PySem.W.Frag) (mg : Str → Option Value) (x : Str) (c : Addr) : Prop where
  q : PySem.W.excIn K c [.type "ValueError", .type "Exception", .type "BaseException", .type "object"] "ValueError.__new__" = true
  g : mg x = some (.ref c)
  kp : PySem.W.keepIn K (.ref c) = true
  sb : PySem.W.subIn K (.ref c) (.type "BaseException") = some true
  ty : PySem.W.typeIn K (.ref c) = some (.type "type")
theorem js_raise {ce : Addr} {m : Str} {j : Nat} {p3 : Pos} (C : Cok X W k) (h : ExcOf X.K X.mg x ce) (hP : P.ex ce s) (hg : Gl X x := by rfl) (hdb : (x == ("__debug__" : Str)) = false := by decide) : JS X W (.Raise (some (.Call (.Name x p) [.Constant (.str m) j p2] [] p3)) none pos) s P :=
  js_of (ps_raise C.calm C.tk (pmk_own PySem.F.excBase_ValueError h.q h.g h.kp (raises_own h.sb h.ty) hg hdb)) fun as B H σ ok Dn f => f.ex as B H σ s ce (Ext.refl ..) ok hP
end
end DL
set_option Elab.async false
set_option linter.all false
set_option maxRecDepth 100000
set_option maxHeartbeats 4000000
set_option autoImplicit true
/-! DLg: short words -/
namespace DL
open PySem PySem.Spec PyProof.Rows L2
section
variable {X : Cx} {W : WX} {k : Nat} {e a b c tg iter elt : Expr} {es rest tgs ifs : List Expr} {st : Stmt} {sts body orelse : List Stmt} {s s' s1 s2 s3 : A} {P : Po} {d d' d1 d2 d3 da db dc : D} {r : Res} {ds : List D} {xs ys : List D} {pos p2 p apos pos' px py pz : Pos} {x y z : Str} {β β1 β2 : Bool} {op : CmpOp} {l : List Sl} {scope : Scope} {own : List (Str × Nat)} {R : A → Prop} {q : Nat}
theorem jg_n2 (i j : Nat) (C : Cok X W k) {cl : List Cl} (hR : R ⟨l, cl⟩) (hl : (s.sl.set i (.d d1)).set j (.d d2) = l := by (first | (dsimp only [List.set, List.length_cons, List.length_nil, List.cons_append, List.nil_append, Nat.reduceAdd]; done) | (dsimp only [List.set, List.length_cons, List.length_nil, List.cons_append, List.nil_append, Nat.reduceAdd]; exact rfl) | exact rfl)) (hcl : s.cl = cl := by (first | (dsimp only [List.set, List.length_cons, List.length_nil, List.cons_append, List.nil_append, Nat.reduceAdd]; done) | (dsimp only [List.set, List.length_cons, List.length_nil, List.cons_append, List.nil_append, Nat.reduceAdd]; exact rfl) | exact rfl)) (hi : X.N[i]? = some x := by rfl) (hj : X.N[j]? = some y := by rfl) (hx : Loc X.env.scope x := by first | exact .inl rfl | exact .inr rfl) (hy : Loc X.env.scope y := by first | exact .inl rfl | exact .inr rfl)
    (hn : i < s.sl.length := by exact of_decide_eq_true rfl) (hn2 : j < s.sl.length := by exact of_decide_eq_true rfl) (hf : X.fn x = true ∨ X.env.scope.names.lookup x = some .local := by first | exact .inl rfl | exact .inr rfl) (hf2 : X.fn y = true ∨ X.env.scope.names.lookup y = some .local := by first | exact .inl rfl | exact .inr rfl)
    (h1 : (assignEach [Expr.Name x px, Expr.Name y py] X.env).map (·.2) = assign (.Name x px) X.env :: (assignEach [Expr.Name y py] X.env).map (·.2) := by rfl) (h2 : (assignEach [Expr.Name y py] X.env).map (·.2) = assign (.Name y py) X.env :: (assignEach [] X.env).map (·.2) := by rfl)
    (h3 : (assignEach [Expr.Name x px, Expr.Name y py] X.env).length = 2 := by rfl) (h4 : (assignEach [Expr.Name x px, Expr.Name y py] X.env).findIdx? (·.1) = none := by rfl) : JG X (.Tuple [.Name x px, .Name y py] q pos) (.tup [d1, d2]) s R :=
  jg_tup C.calm (jgs_cons (jg_name i C.nd (jgs_cons (jg_name j C.nd (jgs_nil (by rw [← hl, ← hcl] at hR; exact hR)) rfl rfl hj hy (by rw [List.length_set]; exact hn2) hf2) h2) rfl rfl hi hx hn hf) h1) rfl h3 h4
theorem jg_n3 (i j m : Nat) (C : Cok X W k) {cl : List Cl} (hR : R ⟨l, cl⟩) (hl : ((s.sl.set i (.d d1)).set j (.d d2)).set m (.d d3) = l := by (first | (dsimp only [List.set, List.length_cons, List.length_nil, List.cons_append, List.nil_append, Nat.reduceAdd]; done) | (dsimp only [List.set, List.length_cons, List.length_nil, List.cons_append, List.nil_append, Nat.reduceAdd]; exact rfl) | exact rfl)) (hcl : s.cl = cl := by (first | (dsimp only [List.set, List.length_cons, List.length_nil, List.cons_append, List.nil_append, Nat.reduceAdd]; done) | (dsimp only [List.set, List.length_cons, List.length_nil, List.cons_append, List.nil_append, Nat.reduceAdd]; exact rfl) | exact rfl)) (hi : X.N[i]? = some x := by rfl) (hj : X.N[j]? = some y := by rfl) (hm : X.N[m]? = some z := by rfl) (hx : Loc X.env.scope x := by first | exact .inl rfl | exact .inr rfl) (hy : Loc X.env.scope y := by first | exact .inl rfl | exact .inr rfl) (hz : Loc X.env.scope z := by first | exact .inl rfl | exact .inr rfl)
    (hn : i < s.sl.length := by exact of_decide_eq_true rfl) (hn2 : j < s.sl.length := by exact of_decide_eq_true rfl) (hn3 : m < s.sl.length := by exact of_decide_eq_true rfl) (hf : X.fn x = true ∨ X.env.scope.names.lookup x = some .local := by first | exact .inl rfl | exact .inr rfl) (hf2 : X.fn y = true ∨ X.env.scope.names.lookup y = some .local := by first | exact .inl rfl | exact .inr rfl) (hf3 : X.fn z = true ∨ X.env.scope.names.lookup z = some .local := by first | exact .inl rfl | exact .inr rfl)
    (h0 : (assignEach [Expr.Name x px, Expr.Name y py, Expr.Name z pz] X.env).map (·.2) = assign (.Name x px) X.env :: (assignEach [Expr.Name y py, Expr.Name z pz] X.env).map (·.2) := by rfl)
    (h1 : (assignEach [Expr.Name y py, Expr.Name z pz] X.env).map (·.2) = assign (.Name y py) X.env :: (assignEach [Expr.Name z pz] X.env).map (·.2) := by rfl) (h2 : (assignEach [Expr.Name z pz] X.env).map (·.2) = assign (.Name z pz) X.env :: (assignEach [] X.env).map (·.2) := by rfl)
    (h3 : (assignEach [Expr.Name x px, Expr.Name y py, Expr.Name z pz] X.env).length = 3 := by rfl) (h4 : (assignEach [Expr.Name x px, Expr.Name y py, Expr.Name z pz] X.env).findIdx? (·.1) = none := by rfl) : JG X (.Tuple [.Name x px, .Name y py, .Name z pz] q pos) (.tup [d1, d2, d3]) s R :=
  jg_tup C.calm (jgs_cons (jg_name i C.nd (jgs_cons (jg_name j C.nd (jgs_cons (jg_name m C.nd (jgs_nil (by rw [← hl, ← hcl] at hR; exact hR)) rfl rfl hm hz (by rw [List.length_set, List.length_set]; exact hn3) hf3) h2) rfl rfl hj hy (by rw [List.length_set]; exact hn2) hf2) h1) rfl rfl hi hx hn hf) h0) rfl h3 h4
theorem jt_chainC {op' : CmpOp} (C : Cok X W k) (ha : JE X WN a s (.ok da) s) (hb : JE X WN b s (.ok db) s) (h : CmpD op da db β1) (hc : β1 = true → JE X WN c s (.ok dc) s ∧ CmpD op' db dc β2) (hm : lastMarks [op, op'] [b, c] = false := by with_unfolding_all rfl) :
    JT X (.Compare a [op, op'] [b, c] pos) s (β1 && β2) := by
  obtain ⟨r, ho, hr⟩ := cmp_rule C.u65 h
  cases β1 with
  | true =>
    obtain ⟨hc, h'⟩ := hc rfl
    obtain ⟨r', ho', hr'⟩ := cmp_rule C.u65 h'
    exact jt_of (pt_chain ho ho' pe_w pe_w pe_w hm) fun as B H σ ok Q q => Ok.two ha hb ok fun x y B2 H2 e2 o2 rx ry => hr B2 H2 x y _ o2.sm rx ry ⟨true, rfl, by
      rw [if_pos rfl]
      exact Ok.one hc o2 fun z B3 H3 e3 o3 rz => hr' B3 H3 y z _ o3.sm (ry.mono e3.b) rz ⟨_, rfl, q B3 H3 (e2.trans e3) o3⟩⟩
  | false =>
    exact jt_of (pt_chain ho op_nev pe_w pe_w pe_w hm) fun as B H σ ok Q q => Ok.two ha hb ok fun x y B2 H2 e2 o2 rx ry => hr B2 H2 x y _ o2.sm rx ry ⟨false, rfl, by
      rw [if_neg (by decide)]
      exact ⟨_, rfl, q B2 H2 e2 o2⟩⟩
theorem jt_chain {op' : CmpOp} (C : Cok X W k) (ha : JE X WN a s (.ok da) s) (hb : JE X WN b s (.ok db) s) (h : CmpD op da db β1) (hc : JE X WN c s (.ok dc) s) (h' : CmpD op' db dc β2) (hm : lastMarks [op, op'] [b, c] = false := by with_unfolding_all rfl) :
    JT X (.Compare a [op, op'] [b, c] pos) s (β1 && β2) := jt_chainC C ha hb h (fun _ => ⟨hc, h'⟩) hm
theorem je_chain' {op' : CmpOp} {V : WX} (C : Cok X V k) (ha : JE X W a s (.ok da) s) (hb : JE X W b s (.ok db) s) (h : CmpD op da db β1) (hc : JE X W c s (.ok dc) s) (h' : CmpD op' db dc β2) (hm : lastMarks [op, op'] [b, c] = false := by with_unfolding_all rfl) :
    JE X W (.Compare a [op, op'] [b, c] pos) s (.ok (.bl (β1 && β2))) s := je_chain C ha hb h (fun _ => ⟨hc, h'⟩) hm
theorem rng_get {n i : Nat} {f : Nat → D} (h : ((List.range n).map f)[i]? = some d) : i < n ∧ d = f i := by
  rw [List.getElem?_map] at h
  cases q : (List.range n)[i]? with
  | none => rw [q] at h; cases h
  | some j =>
    rw [q] at h
    obtain ⟨h1, h2⟩ := List.getElem?_eq_some_iff.mp q
    rw [List.getElem_range] at h2
    rw [List.length_range] at h1
    subst h2
    exact ⟨h1, (Option.some.inj h).symm⟩
theorem atI_map {α β : Type} (f : α → β) {l : List α} {i : Nat} {x : α} (h : l[i]? = some x) : L2.atI (l.map f) (i : Int) = some (f x) := atI_nat (by rw [List.getElem?_map, h]; rfl)
theorem Cok.blk (C : Cok X W k) : Blk X scope fun Y => Cok Y WN k := fun s0 H0 C0 cl0 fp0 => ⟨C.hr, takes0, C.calm, PassesOwn.never, C.nd⟩
theorem je_w {W' : WX} (h : JE X W e s (.ok d) s') : JE X W' e s (.ok d) s' := h
theorem je_allM {α : Type} {lst : List α} {pr : α → Bool} {V : WX} (C : Cok X V k) (hm : X.mg "all" = none) (ha : JE X W a s (.ok (.lst (lst.map fun z => .bl (pr z)))) s1) (hg : Gl X "all" := by rfl)
    (he : starEach (a :: []) X.env = (false, eval a X.env) :: starEach [] X.env := by rfl) (hpl : (backTo pos (starEach [] X.env)).any (·.1) = false := by rfl) : JE X W (.Call (.Name "all" p) [a] [] pos) s (.ok (.bl (lst.all pr))) s1 := by
  have e : (lst.map pr).all id = lst.all pr := by rw [List.all_map]; rfl
  rw [← e]
  refine je_all (bs := lst.map pr) C hm ?_ hg he hpl
  rw [List.map_map]
  exact ha
theorem je_anyM {α : Type} {lst : List α} {pr : α → Bool} {V : WX} (C : Cok X V k) (hm : X.mg "any" = none) (ha : JE X W a s (.ok (.lst (lst.map fun z => .bl (pr z)))) s1) (hg : Gl X "any" := by rfl)
    (he : starEach (a :: []) X.env = (false, eval a X.env) :: starEach [] X.env := by rfl) (hpl : (backTo pos (starEach [] X.env)).any (·.1) = false := by rfl) : JE X W (.Call (.Name "any" p) [a] [] pos) s (.ok (.bl (lst.any pr))) s1 := by
  have e : (lst.map pr).any id = lst.any pr := by rw [List.any_map]; rfl
  rw [← e]
  refine je_any (bs := lst.map pr) C hm ?_ hg he hpl
  rw [List.map_map]
  exact ha
/-- [elt for x in l], x in slot i -/
theorem lc_map {α : Type} (i : Nat) (lst : List α) {enc f : α → D} (C : Cok X W k) (hi : JI X (.Name x px) iter s (lst.map enc) s1)
    (hs : ∀ a ∈ lst, Blk X scope fun Y => Cok Y WN k → JE Y WN elt ⟨s1.sl.set i (.d (enc a)), s1.cl⟩ (.ok (f a)) ⟨s1.sl.set i (.d (enc a)), s1.cl⟩) (hlen : lst.length ≤ sizeLine := by assumption)
    (hblk : blkC X.N X.env.scope scope [(x, i)] = true := by kernel_rfl) (hn : i < s1.sl.length := by exact of_decide_eq_true rfl) (hNi : X.N[i]? = some x := by rfl) (hloc : Blk X scope fun Y => Loc Y.env.scope x := by first | exact fun _ _ _ _ _ => Or.inl rfl | exact fun _ _ _ _ _ => Or.inr rfl) (hfn : Blk X scope fun Y => Y.fn x = true ∨ Y.env.scope.names.lookup x = some .local := by first | exact fun _ _ _ _ _ => .inr rfl | exact fun _ _ _ _ _ => .inl rfl) :
    Lc X (.Name x px) iter elt [] scope [(x, i)] (gName i) s (lst.map f) s1 := by
  have h := lc_mk (elt := elt) (ifs := []) hi (tgt_name (K := X.K) hn) (blkOk_by hblk) (Nat.zero_le _) (fun s0 H0 C0 cl0 fp0 => pg_name C.nd hNi (hloc s0 H0 C0 cl0 fp0) (hfn s0 H0 C0 cl0 fp0)) (fun j => (lst.take j).map f) (fun _ => s1.cl) rfl rfl (fun j hj => by
    rw [List.length_map, List.length_take]
    rw [List.length_map] at hj
    omega) (fun j d hd => by
    rw [List.getElem?_map] at hd
    cases q : lst[j]? with
    | none => rw [q] at hd; cases hd
    | some a =>
      rw [q] at hd
      have hd' : enc a = d := Option.some.inj hd
      subst hd'
      refine ⟨s1.sl.set i (.d (enc a)), true, ?_, rfl, fun _ => ⟨f a, fun s0 H0 C0 cl0 fp0 => hs a (List.mem_of_getElem? q) s0 H0 C0 cl0 fp0 (C.blk s0 H0 C0 cl0 fp0), ?_⟩, fun z => nomatch z⟩
      · show (s1.sl.set i .u).set i (.d (enc a)) = _
        rw [List.set_set]
      · rw [List.take_add_one, q, List.map_append]
        rfl)
  rw [List.length_map, List.take_length] at h
  exact h
theorem lc_as {g : TG} (h : Lc X tg iter elt ifs scope own g s xs s') (e' : xs = ys) : Lc X tg iter elt ifs scope own g s ys s' := e' ▸ h
/-- [elt for x in l if c] -/
theorem lc_filter {α : Type} (i : Nat) (lst : List α) {enc f : α → D} {pr : α → Bool} (C : Cok X W k) (hi : JI X (.Name x px) iter s (lst.map enc) s1)
    (ht : ∀ a ∈ lst, Blk X scope fun Y => Cok Y WN k → JT Y c ⟨s1.sl.set i (.d (enc a)), s1.cl⟩ (pr a))
    (hs : ∀ a ∈ lst, pr a = true → Blk X scope fun Y => Cok Y WN k → JE Y WN elt ⟨s1.sl.set i (.d (enc a)), s1.cl⟩ (.ok (f a)) ⟨s1.sl.set i (.d (enc a)), s1.cl⟩) (hlen : lst.length ≤ sizeLine := by assumption)
    (hblk : blkC X.N X.env.scope scope [(x, i)] = true := by kernel_rfl) (hn : i < s1.sl.length := by exact of_decide_eq_true rfl) (hNi : X.N[i]? = some x := by rfl) (hloc : Blk X scope fun Y => Loc Y.env.scope x := by first | exact fun _ _ _ _ _ => Or.inl rfl | exact fun _ _ _ _ _ => Or.inr rfl) (hfn : Blk X scope fun Y => Y.fn x = true ∨ Y.env.scope.names.lookup x = some .local := by first | exact fun _ _ _ _ _ => .inr rfl | exact fun _ _ _ _ _ => .inl rfl) :
    Lc X (.Name x px) iter elt [c] scope [(x, i)] (gName i) s ((lst.filter pr).map f) s1 := by
  have h := lc_mk (elt := elt) (ifs := [c]) hi (tgt_name (K := X.K) hn) (blkOk_by hblk) (Nat.le_refl _) (fun s0 H0 C0 cl0 fp0 => pg_name C.nd hNi (hloc s0 H0 C0 cl0 fp0) (hfn s0 H0 C0 cl0 fp0)) (fun j => ((lst.take j).filter pr).map f) (fun _ => s1.cl) rfl rfl (fun j hj => by
    have h1 := List.length_filter_le pr (lst.take j)
    rw [List.length_take] at h1
    rw [List.length_map]
    rw [List.length_map] at hj
    omega) (fun j d hd => by
    rw [List.getElem?_map] at hd
    cases q : lst[j]? with
    | none => rw [q] at hd; cases hd
    | some a =>
      rw [q] at hd
      have hd' : enc a = d := Option.some.inj hd
      subst hd'
      have hm := List.mem_of_getElem? q
      refine ⟨s1.sl.set i (.d (enc a)), pr a, ?_, fun s0 H0 C0 cl0 fp0 => ht a hm s0 H0 C0 cl0 fp0 (C.blk s0 H0 C0 cl0 fp0), fun hp => ⟨f a, fun s0 H0 C0 cl0 fp0 => hs a hm hp s0 H0 C0 cl0 fp0 (C.blk s0 H0 C0 cl0 fp0), ?_⟩, fun hp => ⟨rfl, ?_⟩⟩
      · show (s1.sl.set i .u).set i (.d (enc a)) = _
        rw [List.set_set]
      · rw [List.take_add_one, q, List.filter_append, List.map_append]
        simp [hp]
      · rw [List.take_add_one, q, List.filter_append, List.map_append]
        simp [hp])
  rw [List.length_map, List.take_length] at h
  exact h
end
end DL
set_option Elab.async false
set_option linter.all false
set_option maxRecDepth 100000
set_option maxHeartbeats 4000000
set_option autoImplicit true
/-! DLh: try with the error kept, isinstance, further built-ins -/
namespace DL
open PySem PySem.Spec PyProof.Rows L2
section
variable {X : Cx} {σ : L2.St} {H : Hp} {s : Shared} {pins : List (Addr × Obj)}
/-- an object that stood untracked, made since the entry, is tracked -/
theorem Inv.take {a : Addr} {o : HO} {oe : Obj} {vs : Array Value} (I : Inv X pins σ H s) (hex : X.ex = []) (e : s.heap.get? a = some oe) (hd : oe.data = .fields vs) (hn : H a = none) (n0 : X.s_0.heap.get? a = none) (nL : a ≠ X.env.locals) (np : ∀ p ∈ X.pn ++ pins, p.1 ≠ a) (new : ObjOk X.prog X.w (upd H a o) s.heap a o) : Inv X pins σ (upd H a o) s := by
  have neN : ∀ {b : Addr} {u : HO}, H b = some u → b ≠ a := fun {b u} q z => by rw [z, hn] at q; cases q
  have ne0 : ∀ {b : Addr} {u : Obj}, X.s_0.heap.get? b = some u → b ≠ a := fun {b u} q z => by rw [z, n0] at q; cases q
  refine ⟨I.ok, I.os, I.bare, ⟨I.base.keep, I.base.slot, fun b u q n hx => by rw [upd_ne (ne0 q)]; exact I.base.free b u q n hx, I.base.there, fun b xs q => ?_, fun b u xs q => ?_, fun b ps q => ?_⟩, I.loc, I.cell, by rw [upd_ne (Ne.symm nL)]; exact I.free, fun x c q => ?_, fun p hp => ?_, I.hok.laidN (fun _ _ z => z) hn new, I.len⟩
  · have z := I.base.tups b xs q
    rw [upd_ne (neN z)]; exact z
  · have z := I.base.frzs b u xs q
    rw [upd_ne (neN z)]; exact z
  · obtain ⟨m, z⟩ := I.base.tbls b ps q
    exact ⟨m, by rw [upd_ne (neN z)]; exact z⟩
  · rw [upd_ne (fun z => ?_)]
    · exact I.freeC x c q
    · obtain ⟨v, oc, ho, hdc⟩ := I.cell x c q
      rw [z, e] at ho
      cases ho
      rw [hd] at hdc
      cases hdc
  · obtain ⟨h1, h2, h3⟩ := I.pin p hp
    exact ⟨h1, by rw [upd_ne (np p hp)]; exact h2, h3⟩
theorem exH_ok {P : Program} {w : World} {H : Hp} {h : Heap} {a c : Addr} {oe : Obj} {vs : Array Value} (e : h.get? a = some oe) (z : Zc (.ref c) none oe) (d : oe.data = .fields vs) : ObjOk P w H h a (ExH c a) :=
  ⟨⟨oe, vs, e, z, d⟩, ⟨oe, e⟩, fun _ _ ⟨o, v, q, r⟩ k => ⟨o, v, k o q, r⟩⟩
/-- the wish of a try whose clause keeps the error in slot j -/
def wKeep (K : PySem.W.Frag) (cv : Value) (i j : Nat) (D : Ends) : WX := fun cls d σ H => ∃ c : Addr, cls = .ref c ∧ d = none ∧ PySem.W.exmOne K (.ref c) cv = some true ∧ ∀ a, H a = none → D.nx (((σ.set i (some (.ref a))).set j (some (.ref a))).set i none) (upd H a (ExH c a))
variable {x n : Str} {cv : Value} {i j : Nat} {body : List Stmt} {st : Stmt} {np pos pos' : Pos} {tb : WX → TS}
theorem ps_tryKeep (hs : X.stack = X.env :: X.outer) (hf : X.env.frame = some X.env.locals) (hex : X.ex = []) (hN : X.N.Nodup) (hi : X.N[i]? = some n) (hln : X.env.kindOf n = some .local) (hc : Names X x cv)
    (hb : ∀ (W : WX) (pn : List (Addr × Obj)) (xe : Value → Shared → Prop), Takes (X.tr pn xe) W → PassesOwn (model X.prog X.w) X.A X.env xe →
      PSs (X.tr pn xe) body (tb W))
    (hsu : ∀ (a : Addr) (oe : Obj) (pn : List (Addr × Obj)), PSs (X.suite a ((a, oe) :: pn)) [st] (tAsg (tVar i) (gName j))) :
    PS X (.Try body [.ExceptHandler (some (.Name x np)) (some n) [st] pos'] [] [] pos) (fun D σ H => tb (wKeep X.K cv i j D) D σ H) := by
  refine ⟨fun pins s σ H D I h => ?_⟩
  have ok := I.ok
  have frS : X.A.frames = some (X.env :: X.outer) := by rw [ok.frames, hs]
  have locN : Loc X.env.scope n := .inl hln
  refine wpAny_Try_except ?_
  refine wpAny_mono ((hb (wKeep X.K cv i j D) (X.pn ++ pins) (fun e s₁ => wpAny (model X.prog X.w) X.A (noteFrame e X.env) (fun _ s₂ => wpAny (model X.prog X.w) X.A (setFlight e none) (fun _ s₃ =>
    wpAny (model X.prog X.w) X.A (handleBy e X.env [.ExceptHandler (some (.Name x np)) (some n) [st] pos']) (SP X pins D) X.xe s₃) X.xe s₂) X.xe s₁) (fun u t xx => ?_) PassesOwn.looking).run [] s σ H D (I.toTry _) h) (fun f s1 done => ?_) (fun e s1 hx => hx)
  · obtain ⟨a, B, t0, pins', τ, G, cls, d, rfl, I', nb, up, sky, na, os, ag, c, rfl, rfl, hb1, hgo⟩ := xx
    have J : Inv X pins τ G t0 := I'.ofTry ok
    have skyX : Sky B (X.env :: X.outer) a (Zc (.ref c) none) X.env.locals t.heap := by rw [← hs]; exact sky
    show wpAny _ _ (noteFrame (.ref a) X.env) _ _ _
    refine Sky.land Zc.steady frS hf skyX fun m3 fly3 ext3 => ?_
    have I3 : Inv X pins τ G { t with heap := m3 } := J.landed nb fly3.1 (up.trans ext3) os ag
    obtain ⟨ob3, ws3, at3, z3, d3⟩ := fly3.there
    have off : ∀ {h : Heap} {o : Obj} {vs : Array Value}, h.FunFrames B (X.env :: X.outer) → h.get? a = some o → o.data = .fields vs → a ∉ frs (X.env :: X.outer) := fun {h o vs} ff e dd gm => by
      obtain ⟨_, oo, ee, nof⟩ := ff.mem gm
      rw [e] at ee; cases ee
      exact nof _ dd
    have away := off fly3.2.2.1 at3 d3
    have neL : a ≠ X.env.locals := fun z => away (List.mem_filterMap.mpr ⟨X.env, List.mem_cons_self, by rw [hf, z]⟩)
    have noF : a ∉ X.fs := fun gm => by
      obtain ⟨e, hx, w⟩ := List.mem_filterMap.mp gm
      exact away (List.mem_filterMap.mpr ⟨e, List.mem_cons_of_mem _ hx, w⟩)
    have bare0 : t0.heap.get? a = none := by
      cases w : t0.heap.get? a with
      | none => rfl
      | some o =>
        have z := nb a o w (by
          have e : frs X.stack = frs (X.env :: X.outer) := by rw [hs]
          intro gm
          exact away (by rw [← e]; exact gm))
        rw [fly3.2.1] at z
        cases z
    have bare1 : X.s_0.heap.get? a = none := by
      cases w : X.s_0.heap.get? a with
      | none => rfl
      | some o =>
        obtain ⟨oo, z⟩ := J.base.there a o w (by rw [hex]; exact fun z => nomatch z)
        rw [bare0] at z
        cases z
    have pinA : ∀ p ∈ X.pn ++ pins, p.1 ≠ a := fun p hp z => by
      have w := (J.pin p hp).1
      rw [z, bare0] at w
      cases w
    have T3 := I3.suite at3 d3 na neL noF
    refine wpAny_handleBy_cons (codeAny_handlers_test ?_) (by intro w; cases w)
    have tyA : PySem.W.Looks (model X.prog X.w) m3 (typeOf (.ref a)) (.ref c) := fun A Q E s k w => wpAny_typeOf_ref (k _ _ at3) (by rw [z3.1]; exact w)
    have hit := PySem.W.exm_one (M := model X.prog X.w) (I3.kIn) tyA hb1
    have test : ∀ {Q : Value → Shared → Prop} {E : Value → Shared → Prop}, Q cv { t with heap := m3 } → wpAny (model X.prog X.w) (X.A.mark (some (.ref a))) (eval (.Name x np) X.env) Q E { t with heap := m3 } := fun {Q E} w => by
      obtain ⟨gx, ndb, gm | ⟨gm, bv, nnm⟩⟩ := hc
      · exact ld_glob (X := X.suite a ((a, ob3) :: (X.pn ++ pins))) T3 gx gm w ndb
      · exact ld_blt (X := X.suite a ((a, ob3) :: (X.pn ++ pins))) T3 gx gm bv w nnm ndb
    refine test (hit.here (codeAny_handlers_suite_as ?_))
    refine HandSPX.lands_againZ fly3 fun m4 fly4 ext4 => ?_
    have I4 : Inv X pins τ G { t with heap := m4 } := J.landed nb fly4.1 ((up.trans ext3).trans ext4) os ag
    obtain ⟨ob4, ws4, at4, z4, d4⟩ := fly4.there
    have T4 := I4.suite at4 d4 na neL noF
    refine store_ok (X := X.suite a ((a, ob4) :: (X.pn ++ pins))) (v := .ref a) T4 hN hi locN rfl (fun s5 S5 => ?_) (.inr hln)
    have hlen : i < τ.length := by rw [J.len]; exact (List.getElem?_eq_some_iff.mp hi).1
    refine wpAny_mono ((hsu a ob4 (X.pn ++ pins)).run [] s5 _ G { nx := fun σ6 H6 => σ6 = (τ.set i (some (.ref a))).set j (some (.ref a)) ∧ H6 = G, rt := fun _ _ => False, bk := fun _ _ => False, ct := fun _ _ => False } S5 ⟨.ref a, List.getElem?_set_self hlen, rfl, rfl⟩) (fun f s6 done => ?_) (fun _ _ z => False.elim z)
    cases f with
    | next =>
      obtain ⟨σ6, H6, S6, rfl, rfl⟩ := done
      have J6 : Inv X pins _ H6 s6 := S6.unsuite ok
      obtain ⟨he6, hn6, nL6, _⟩ := S6.pin (a, ob4) (by simp)
      have J7 : Inv X pins _ (upd H6 a (ExH c a)) s6 := Inv.take J6 hex he6 d4 na bare1 neL pinA (exH_ok he6 z4 d4)
      exact gone_ok J7 hN hi hln fun s7 J8 => ⟨_, _, J8, hgo a na⟩
    | brk => obtain ⟨_, _, _, z⟩ := done; exact z.elim
    | cont => obtain ⟨_, _, _, z⟩ := done; exact z.elim
    | ret u => obtain ⟨_, _, _, _, _, z⟩ := done; exact z.elim
  · cases f with
    | next =>
      obtain ⟨τ, G, I', w⟩ := done
      exact wpAny_execs_nil ⟨τ, G, I'.ofTry ok, w⟩
    | brk =>
      obtain ⟨τ, G, I', w⟩ := done
      exact ⟨τ, G, I'.ofTry ok, w⟩
    | cont =>
      obtain ⟨τ, G, I', w⟩ := done
      exact ⟨τ, G, I'.ofTry ok, w⟩
    | ret u =>
      obtain ⟨v, τ, G, I', r, w⟩ := done
      exact ⟨v, τ, G, I'.ofTry ok, r, w⟩
end
section
variable {X : Cx} {W : WX} {k : Nat} {e a b c tg iter elt : Expr} {es rest tgs ifs : List Expr} {st : Stmt} {sts body orelse : List Stmt} {s s' s1 s2 s3 : A} {P : Po} {d d' d1 d2 d3 da db dc : D} {r : Res} {ds : List D} {xs ys : List D} {pos p2 p apos pos' px py pz np : Pos} {x y z n : Str} {β β1 β2 : Bool} {op : CmpOp} {l : List Sl} {scope : Scope} {own : List (Str × Nat)} {R : A → Prop} {q : Nat}
theorem Ok.store' {K : PySem.W.Frag} {as : List Addr} {B H : Hp} {σ : L2.St} {s : A} {i : Nat} {o : Option V} {x : Sl} (h : Ok K as B H σ s) (hx : SlOk K B as o x) : Ok K as B H (σ.set i o) ⟨s.sl.set i x, s.cl⟩ := by
  by_cases hi : i < s.sl.length
  · exact h.store hi hx
  · rw [List.set_eq_of_length_le (by rw [h.ln]; omega), List.set_eq_of_length_le (by omega)]
    exact h
def tTry (X : Cx) (body : List Stmt) (W' : WX) : TS := fun D σ H => ∀ (pn : List (Addr × Obj)) (xe : Value → Shared → Prop), Takes (X.tr pn xe) W' → PassesOwn (model X.prog X.w) X.A X.env xe → wB (X.tr pn xe) body D σ H
/-- try: body / except x as n: kept = n; i n's slot, j kept's -/
theorem js_try (i j : Nat) {cv : Value} (C : Cok X W k) (hc : Names X x cv)
    (hb : ∀ (W' : WX) (pn : List (Addr × Obj)) (xe : Value → Shared → Prop), Cok (X.tr pn xe) W' k → JB (X.tr pn xe) W' body s { P with ex := fun c s' => PySem.W.exmOne X.K (.ref c) cv = some true ∧ P.nx ⟨((s'.sl.set i .u).set j (.d (.exc c))).set i .u, s'.cl⟩ })
    (hs : X.stack = X.env :: X.outer := by rfl) (hf : X.env.frame = some X.env.locals := by rfl) (hex : X.ex = [] := by rfl) (hi : X.N[i]? = some n := by rfl) (hj : X.N[j]? = some y := by rfl) (hln : X.env.kindOf n = some .local := by rfl) (hlj : X.env.scope.names.lookup y = some .local := by rfl)
    (hd1 : (n == ("__debug__" : Str)) = false := by decide) (hd2 : (n == ("__classdict__" : Str)) = false := by decide)
    (hsw : swapsWith (.Name n px) (some (.Name y py)) p2.line X.env = pure false := by rfl) :
    JS X W (.Try body [.ExceptHandler (some (.Name x np)) (some n) [.Assign [.Name y py] (.Name n px) p2] pos'] [] [] pos) s P :=
  js_of (ps_tryKeep (tb := tTry X body) hs hf hex C.nd hi hln hc (fun W' pn xe tk hp => ⟨fun pins s σ H D I h => h pn xe tk hp pins s I⟩) (fun a oe pn => pss_one (ps_set C.nd hj (.inl hlj) (pe_var hi (.inl hln) hd1 hd2) hsw (.inr hlj)))) fun as B H σ ok Dn f => fun pn xe tk hp => by
    refine hb _ pn xe ⟨C.hr, tk, C.calm, hp, C.nd⟩ as B H σ ok Dn ⟨f.nx, f.rt, f.bk, f.ct, fun as' B' H' σ' s' c x o z => ⟨c, rfl, rfl, z.1, fun a ha => ?_⟩⟩
    obtain ⟨o1, x1⟩ := o.new (o := ExH c a) ha
    have o2 := o1.store' (i := i) (o := some (.ref a)) (x := .u) True.intro
    have o3 := o2.store' (i := j) (o := some (.ref a)) (x := .d (.exc c)) ⟨.ref a, rfl, .exc upd_same⟩
    have o4 := o3.store' (i := i) (o := none) (x := .u) True.intro
    exact f.nx _ _ _ _ _ (x.trans x1) o4 z.2

/-! ### isinstance -/
inductive IsK (K : PySem.W.Frag) : D → Value → Bool → Prop
  | non {u : Value} {b : Bool} (h : PySem.W.kitOne K (.type "NoneType") u = some b) : IsK K .non u b
  | int {i : Int} {u : Value} {b : Bool} (h : PySem.W.kitOne K (.type "int") u = some b) : IsK K (.int i) u b
  | bl {i : Bool} {u : Value} {b : Bool} (h : PySem.W.kitOne K (.type "bool") u = some b) : IsK K (.bl i) u b
  | str {i : Str} {u : Value} {b : Bool} (h : PySem.W.kitOne K (.type "str") u = some b) : IsK K (.str i) u b
  | lst {xs : List D} {u : Value} {b : Bool} (h : PySem.W.kitOne K (.type "list") u = some b) : IsK K (.lst xs) u b
  | exc {c : Addr} {u : Value} {b : Bool} (hE : ExcC K c) (h : PySem.W.kitOne K (.ref c) u = some b) : IsK K (.exc c) u b
def rIsX (K : PySem.W.Frag) : List V → Hp → VK → Prop := fun xs H Q => ∃ (a D : Addr) (c : V) (cv : Value) (b : Bool), xs = [.ref a, c] ∧ H a = some (ExH D a) ∧ ExcC K D ∧ ClsV c cv ∧ PySem.W.kitOne K (.ref D) cv = some b ∧ Q (.bl b) H
theorem call_isX : CallR X (.builtin "isinstance") (rIsX X.K) := by
  intro ps t τ G zs us R I rv ⟨a, D, c, cv, b, ez, ha, C, kc, e, q⟩
  subst ez
  obtain ⟨x1, x2, rfl, y1, y2⟩ := vals2 rv
  have e1 : x1 = .ref a := y1
  have e2 := kc.eq y2
  subst e1 e2
  obtain ⟨⟨oe, vs, hget, hz, hd⟩, _, _⟩ := I.hok a _ ha
  have at_ : PySem.W.InstAt t.heap a oe D none := by
    cases oe
    obtain ⟨h1, h2⟩ := hz
    dsimp only at h1 h2 hd
    subst h1 h2 hd
    exact ⟨hget, rfl, rfl, True.intro⟩
  exact PySem.W.kia_one (PySem.W.handS_kitx_exc C.hg C.hk C.hs C.hd C.ha C.hn C.ht C.hm) I.kIn at_ e (fun z => nomatch z)
    fun tk => ⟨.bl b, G, I.kept (t' := tk) fun _ _ z => z, rfl, q⟩
theorem je_isinst {cv : V} {u : Value} (hm : X.mg "isinstance" = none) (ha : JE X W a s (.ok d) s) (hc : PE X b (tC cv)) (kc : ClsV cv u) (h : IsK X.K d u β) (hg : Gl X "isinstance" := by rfl)
    (h1 : starEach (b :: []) X.env = (false, eval b X.env) :: starEach [] X.env := by rfl) (he : starEach (a :: [b]) X.env = (false, eval a X.env) :: starEach [b] X.env := by rfl) (hpl : (backTo pos (starEach [b] X.env)).any (·.1) = false := by rfl) :
    JE X W (.Call (.Name "isinstance" p) [a, b] [] pos) s (.ok (.bl β)) s :=
  je_of (pe_callB (call_isi.or call_isX) hg hm (by decide +kernel) (pa_cons pe_w (pa_cons hc pa_nil h1) he) (by decide) (by decide) he hpl) fun as B H σ ok Q q => Ok.one ha ok fun x B1 H1 e1 o1 r1 => by
    cases h with
    | non h => cases r1; exact .inl ⟨_, _, _, _, _, rfl, kc, .base .non, h, q _ B1 H1 e1 o1 (.bl _)⟩
    | int h => cases r1; exact .inl ⟨_, _, _, _, _, rfl, kc, .base (.int _), h, q _ B1 H1 e1 o1 (.bl _)⟩
    | bl h => cases r1; exact .inl ⟨_, _, _, _, _, rfl, kc, .base (.bl _), h, q _ B1 H1 e1 o1 (.bl _)⟩
    | str h => cases r1; exact .inl ⟨_, _, _, _, _, rfl, kc, .base (.str _), h, q _ B1 H1 e1 o1 (.bl _)⟩
    | lst h =>
      cases r1 with
      | lst h1 h2 => exact .inl ⟨_, _, _, _, _, rfl, kc, .base (.lst (o1.sm _ _ h1)), h, q _ B1 H1 e1 o1 (.bl _)⟩
    | exc hE h =>
      cases r1 with
      | exc h1 => exact .inr ⟨_, _, _, _, _, rfl, o1.sm _ _ h1, hE, kc, h, q _ B1 H1 e1 o1 (.bl _)⟩

/-! ### further built-ins -/
theorem ji_rev {m : Nat} (hm : X.mg "reversed" = none) (hr : X.mg "range" = none) (h : JE X WN a s (.ok (.int (m : Nat))) s1) (hn : m < 2 ^ 62) (hg : Gl X "reversed" := by rfl) (hg2 : Gl X "range" := by rfl) (h1 : starEach [a] X.env = (false, eval a X.env) :: starEach [] X.env := by rfl)
    (hs : starEach [Expr.Call (.Name "range" p) [a] [] pos] X.env = (false, eval (.Call (.Name "range" p) [a] [] pos) X.env) :: starEach [] X.env := by rfl) : JI X tg (.Call (.Name "reversed" p2) [.Call (.Name "range" p) [a] [] pos] [] pos') s ((List.range m).map fun i : Nat => D.int ((m - 1 - i : Nat) : Int)) s1 :=
  fun as B H σ ok R q => wI_of (pi_revR hg hm (prg_1 hg2 hr pe_w h1) hs) (Ok.one h ok fun v B1 H1 x1 o1 r1 => by
    cases r1
    refine ⟨m, rfl, by omega, by omega, by omega, by omega, q _ B1 H1 x1 o1 ?_⟩
    have e : ((m : Int) - 0).toNat = m := by omega
    rw [e]
    have len : ((List.range m).map fun i : Nat => D.int ((m - 1 - i : Nat) : Int)).length = m := by rw [List.length_map, List.length_range]
    refine ⟨fun i H hi _ => by rw [len] at hi; exact hi, fun H _ => by rw [len]; exact Nat.le_refl _, fun i H v H' hi _ y => ?_⟩
    rw [len] at hi
    obtain ⟨e1, e2⟩ := y
    subst e2
    refine ⟨e1, .int ((m - 1 - i : Nat) : Int), by rw [List.getElem?_map, List.getElem?_range hi]; rfl, ?_⟩
    have e3 : (0 : Int) + (m : Int) - 1 + (i : Int) * (-1) = ((m - 1 - i : Nat) : Int) := by omega
    rw [e3]
    exact .int _)
theorem jf_listR {m : Nat} (C : Cok X W k) (hm : X.mg "list" = none) (hr : X.mg "range" = none) (h : JE X WN a s (.ok (.int (m : Nat))) s1) (hn : m ≤ 16777216) (hg : Gl X "list" := by rfl) (hg2 : Gl X "range" := by rfl) (h1 : starEach [a] X.env = (false, eval a X.env) :: starEach [] X.env := by rfl)
    (hs : starEach [Expr.Call (.Name "range" p) [a] [] pos] X.env = (false, eval (.Call (.Name "range" p) [a] [] pos) X.env) :: starEach [] X.env := by rfl) : JF X (.Call (.Name "list" p2) [.Call (.Name "range" p) [a] [] pos] [] pos') s ((List.range m).map fun i : Nat => D.int (i : Nat)) s1 :=
  jf_of (pe_listRg C.calm hg hm (prg_1 hg2 hr pe_w h1) hs) fun as B H σ ok Q q => Ok.one h ok fun v B1 H1 x1 o1 r1 => by
    cases r1
    refine ⟨m, rfl, RgOk.of_le (by omega) (by omega) (by omega) (by omega), fun p hp => ?_⟩
    have e : rgV 0 (m : Int) = (List.range m).map fun i : Nat => V.int (i : Nat) := by
      unfold rgV
      have e1 : ((m : Int) - 0).toNat = m := by omega
      rw [e1]
      exact List.map_congr_left fun i _ => by rw [Int.zero_add]
    rw [e]
    have rr : ∀ l : List Nat, Reps X.K B1 (l.map fun i : Nat => V.int (i : Nat)) (l.map fun i : Nat => D.int (i : Nat)) := fun l => by
      induction l with
      | nil => exact .nil
      | cons x l ih => exact .cons (.int _) ih
    exact Ok.newF x1 o1 hp (rr _) q
/-- l.count(y), a list of ints -/
theorem je_countI {ns : List Int} {i : Int} (ha : JE X W a s (.ok (.lst (ns.map .int))) s1) (hb : JE X W b s1 (.ok (.int i)) s2) (hbase : attributeBase a "count" X.env (eval a X.env) = eval a X.env := by rfl)
    (hfew : ((backTo p (starEach (b :: []) X.env)).all (fun x => !x.1) && (backToKw p (keywordEach [] X.env)).all (fun x => x.1.isSome)
      && decide ((b :: []).length + ([] : List Keyword).length + (if ([] : List Keyword).isEmpty then 0 else 1) < 30)) = true := by rfl)
    (hline : (apos.endLine == p.line) = true := by rfl) (hs : starEach (b :: []) X.env = (false, eval b X.env) :: starEach [] X.env := by rfl) (hplain : (backTo p (starEach [] X.env)).any (·.1) = false := by rfl) :
    JE X W (.Call (.Attribute a "count" apos) [b] [] p) s (.ok (.int (ns.count i : Nat))) s2 :=
  je_of (pe_bm PySem.F.plainAttrs_list PySem.F.slot_list_count PySem.F.type_list_count mt_lcount pe_w (pa_cons pe_w pa_nil hs) hbase hfew hline hs hplain) fun as B H σ ok Q q => Ok.one ha ok fun v B1 H1 x1 o1 r1 => by
    cases r1 with
    | lst h1 h2 =>
      have z := h2.ints
      subst z
      refine ⟨.inl ⟨rfl, _, .inl (.inl (o1.sm _ _ h1))⟩, Ok.one hb o1 fun y B2 H2 x2 o2 r2 => ?_⟩
      cases r2
      exact ⟨_, ns, i, rfl, rfl, .inl (.inl (o2.sm _ _ (x2.b _ _ h1))), q _ B2 H2 (x1.trans x2) o2 (.int _)⟩
/-- l.index(y), a list of flat things -/
theorem je_index {j : Nat} {z : D} {n : Nat} {V : WX} (C : Cok X V k) (ha : JE X W a s (.ok (.lst xs)) s1) (hb : JE X W b s1 (.ok d) s2) (hn : n ≤ 58) (h1 : ∀ x ∈ xs, Sh n x) (h2 : Sh n d) (hj : xs[j]? = some z) (hz : D.eqv z d = true) (hno : ∀ m z', m < j → xs[m]? = some z' → D.eqv z' d = false)
    (hbase : attributeBase a "index" X.env (eval a X.env) = eval a X.env := by rfl)
    (hfew : ((backTo p (starEach (b :: []) X.env)).all (fun x => !x.1) && (backToKw p (keywordEach [] X.env)).all (fun x => x.1.isSome)
      && decide ((b :: []).length + ([] : List Keyword).length + (if ([] : List Keyword).isEmpty then 0 else 1) < 30)) = true := by rfl)
    (hline : (apos.endLine == p.line) = true := by rfl) (hs : starEach (b :: []) X.env = (false, eval b X.env) :: starEach [] X.env := by rfl) (hplain : (backTo p (starEach [] X.env)).any (·.1) = false := by rfl) :
    JE X W (.Call (.Attribute a "index" apos) [b] [] p) s (.ok (.int (j : Nat))) s2 :=
  je_of (pe_bm PySem.F.plainAttrs_list PySem.F.slot_list_index PySem.F.type_list_index (mt_indexD C.u65) pe_w (pa_cons pe_w pa_nil hs) hbase hfew hline hs hplain) fun as B H σ ok Q q => Ok.one ha ok fun v B1 H1 x1 o1 r1 => by
    have sl : Sh (n + 1) (.lst xs) := by simpa [Sh] using h1
    have dl := r1.dp (n + 1) sl
    rw [D.py] at dl
    cases r1 with
    | lst g1 g2 =>
      refine ⟨.inl ⟨rfl, _, .inl (.inl (o1.sm _ _ g1))⟩, Ok.one hb o1 fun y B2 H2 x2 o2 r2 => ?_⟩
      refine ⟨_, y, d.py, D.pys xs, j, z.py, rfl, rfl, dp_same (x2.b.trans o2.sm) dl, dp_same o2.sm (r2.dp n h2), ?_, shaped_of h2 (by omega), ?_, hz, fun m z' hm hz' => ?_, q _ B2 H2 (x1.trans x2) o2 (.int _)⟩
      · have z := shaped_of sl (by omega)
        rw [D.py] at z
        exact z
      · rw [pys_map, List.getElem?_map, hj]; rfl
      · rw [pys_map, List.getElem?_map] at hz'
        cases e : xs[m]? with
        | none => rw [e] at hz'; cases hz'
        | some w =>
          rw [e] at hz'
          cases hz'
          exact hno m w hm e
end
end DL
set_option Elab.async false
set_option linter.all false
set_option maxRecDepth 100000
set_option maxHeartbeats 4000000
set_option autoImplicit true
/-! DLi: count of truth values, the least and greatest of a tuple -/
namespace DL
open PySem PySem.Spec PyProof.Rows L2
def rCntV (K : PySem.W.Frag) : V → List V → Hp → VK → Prop := fun x xs H Q => ∃ (p : Addr) (ys : List V) (y : V), x = .ref p ∧ xs = [y] ∧ SqL K H p ys ∧ flatV y = true ∧ ys.all flatV = true ∧ Q (.int (ys.countP (fun z => eqV z y) : Nat)) H
theorem countP_eqU {x : V} : ∀ {xs : List V} {us : List Value}, Vals xs us → xs.all flatV = true → us.countP (eqU x) = xs.countP fun y => eqV y x
  | _, _, .nil, _ => rfl
  | _, _, .cons (a := v) (b := u) r t, f => by
    rw [List.all_cons, Bool.and_eq_true] at f
    rw [List.countP_cons, List.countP_cons, countP_eqU t f.2, eqU_of r f.1]
theorem mt_countV {X : Cx} : MtR X "list.count" (rCntV X.K) := by
  intro _ s _ H x xs v us Q I rx rxs ⟨p, ys, y, ex, exs, hs, fy, fa, q⟩
  subst ex exs
  cases rx
  obtain ⟨u, eu, ru⟩ := rxs.one
  subst eu
  obtain ⟨its, rv, ⟨⟨cls, dd, data, sl⟩, n, ho, c0, _, d0⟩, _⟩ := I.list hs
  simp only at c0 d0
  subst c0 d0
  refine call_meets PySem.F.slot_list_count ⟨_, ho, rfl⟩ PySem.F.entry_list_count
    (PySem.F.args_list_count_2 _ _) (SeqAt.list_countAt p its.toArray n dd sl u (eqU y)) ⟨ho, fun z hz => mem_eqAt ru fy rv fa z (by simpa using hz), ?_⟩
  have ec : its.toArray.toList.countP (eqU y) = ys.countP (fun z => eqV z y) := countP_eqU rv fa
  refine ⟨.int (ys.countP (fun z => eqV z y) : Nat), H, I.tok _, ⟨s.toks, ?_⟩, q⟩
  show Value.int ((its.toArray.toList.countP (eqU y) : Nat) : Int) s.toks = _
  rw [ec]
section
variable {X : Cx} {W : WX} {k : Nat} {e a b c tg iter elt : Expr} {es rest tgs ifs : List Expr} {s s' s1 s2 s3 : A} {d d' d1 d2 d3 da db dc : D} {xs ys : List D} {pos p2 p apos pos' : Pos}
theorem countB {β : Bool} : ∀ bs : List Bool, (bs.map V.bl).countP (fun z => eqV z (.bl β)) = bs.count β
  | [] => rfl
  | b :: bs => by
    rw [List.map_cons, List.countP_cons, countB bs, List.count_cons]
    cases b <;> cases β <;> rfl
theorem je_countB {bs : List Bool} {β : Bool} (ha : JE X W a s (.ok (.lst (bs.map .bl))) s1) (hb : JE X W b s1 (.ok (.bl β)) s2) (hbase : attributeBase a "count" X.env (eval a X.env) = eval a X.env := by rfl)
    (hfew : ((backTo p (starEach (b :: []) X.env)).all (fun x => !x.1) && (backToKw p (keywordEach [] X.env)).all (fun x => x.1.isSome)
      && decide ((b :: []).length + ([] : List Keyword).length + (if ([] : List Keyword).isEmpty then 0 else 1) < 30)) = true := by rfl)
    (hline : (apos.endLine == p.line) = true := by rfl) (hs : starEach (b :: []) X.env = (false, eval b X.env) :: starEach [] X.env := by rfl) (hplain : (backTo p (starEach [] X.env)).any (·.1) = false := by rfl) :
    JE X W (.Call (.Attribute a "count" apos) [b] [] p) s (.ok (.int (bs.count β : Nat))) s2 :=
  je_of (pe_bm PySem.F.plainAttrs_list PySem.F.slot_list_count PySem.F.type_list_count mt_countV pe_w (pa_cons pe_w pa_nil hs) hbase hfew hline hs hplain) fun as B H σ ok Q q => Ok.one ha ok fun v B1 H1 x1 o1 r1 => by
    cases r1 with
    | lst h1 h2 =>
      have z := h2.bls
      subst z
      refine ⟨.inl ⟨rfl, _, .inl (.inl (o1.sm _ _ h1))⟩, Ok.one hb o1 fun y B2 H2 x2 o2 r2 => ?_⟩
      cases r2
      refine ⟨_, _, _, rfl, rfl, .inl (.inl (o2.sm _ _ (x2.b _ _ h1))), rfl, by simp [flatV], ?_⟩
      rw [countB]
      exact q _ B2 H2 (x1.trans x2) o2 (.int _)
theorem alike_ints (n : Int) (ns : List Int) : PySem.W.AlikeAll (PyData.int n :: ns.map .int) := by
  have h : ∀ x ∈ PyData.int n :: ns.map .int, ∃ i, x = .int i := fun x hx => by
    rcases List.mem_cons.mp hx with rfl | hx
    · exact ⟨_, rfl⟩
    · obtain ⟨i, _, rfl⟩ := List.mem_map.mp hx
      exact ⟨i, rfl⟩
  refine ⟨fun x hx y hy => ?_, fun x hx z => ?_⟩
  · obtain ⟨i, rfl⟩ := h x hx
    obtain ⟨j, rfl⟩ := h y hy
    rfl
  · obtain ⟨i, rfl⟩ := h x hx
    cases z
theorem depth_ints : ∀ ns : List Int, PyData.depthAll (ns.map .int) = 0
  | [] => rfl
  | n :: ns => by rw [List.map_cons, PyData.depthAll, depth_ints ns]; rfl
theorem dp_ints {K : PySem.W.Frag} {H : Hp} : ∀ ns : List Int, DpAll K H (ns.map V.int) (ns.map .int)
  | [] => .nil
  | n :: ns => .cons (.int n) (dp_ints ns)
/-- the least, the greatest of a tuple of ints -/
def rMinT (K : PySem.W.Frag) : List V → Hp → VK → Prop := fun vs H Q => ∃ (a : Addr) (n : Int) (ns : List Int), vs = [V.ref a] ∧ SqT K H a ((n :: ns).map V.int) ∧ Q (.int (ns.foldl min n)) H
def rMaxT (K : PySem.W.Frag) : List V → Hp → VK → Prop := fun vs H Q => ∃ (a : Addr) (n : Int) (ns : List Int), vs = [V.ref a] ∧ SqT K H a ((n :: ns).map V.int) ∧ Q (.int (ns.foldl max n)) H
theorem cr_minT (hc : X.calm = true) (hu : X.A.units + 64 < cLine) : CallR X (.builtin "min") (rMinT X.K) := by
  intro _ s σ H vs us Q I r ⟨a, n, ns, ev, hs, q⟩
  subst ev
  obtain ⟨its, rv, hl, _⟩ := I.tuple hs
  rw [Vals.ref1 r]
  obtain ⟨as, hr⟩ := Dp.readsAll I _ _ _ (dp_ints (K := X.K) (H := H) (n :: ns)) rv
  refine PySem.W.min_tuple_data (I.ok.hd hc) hl hr (alike_ints n ns) (by
    rw [show (PyData.int n :: ns.map .int) = (n :: ns).map PyData.int from rfl, depth_ints]
    omega) fun i v h' tk bs hv hread k => ?_
  rw [PySem.W.minD_ints] at hread
  cases hread with
  | int i t => exact ⟨.int _, H, I.kept k, ⟨_, rfl⟩, q⟩
theorem cr_maxT (hc : X.calm = true) (hu : X.A.units + 64 < cLine) : CallR X (.builtin "max") (rMaxT X.K) := by
  intro _ s σ H vs us Q I r ⟨a, n, ns, ev, hs, q⟩
  subst ev
  obtain ⟨its, rv, hl, _⟩ := I.tuple hs
  rw [Vals.ref1 r]
  obtain ⟨as, hr⟩ := Dp.readsAll I _ _ _ (dp_ints (K := X.K) (H := H) (n :: ns)) rv
  refine PySem.W.max_tuple_data (I.ok.hd hc) hl hr (alike_ints n ns) (by
    rw [show (PyData.int n :: ns.map .int) = (n :: ns).map PyData.int from rfl, depth_ints]
    omega) fun i v h' tk bs hv hread k => ?_
  rw [PySem.W.maxD_ints] at hread
  cases hread with
  | int i t => exact ⟨.int _, H, I.kept k, ⟨_, rfl⟩, q⟩
theorem je_minT {n : Int} {ns : List Int} {V : WX} (C : Cok X V k) (hm : X.mg "min" = none) (ha : JE X W a s (.ok (.tup ((n :: ns).map .int))) s1) (hg : Gl X "min" := by rfl)
    (he : starEach (a :: []) X.env = (false, eval a X.env) :: starEach [] X.env := by rfl) (hpl : (backTo pos (starEach [] X.env)).any (·.1) = false := by rfl) : JE X W (.Call (.Name "min" p) [a] [] pos) s (.ok (.int (ns.foldl min n))) s1 :=
  je_call1 (cr_minT C.calm C.hr.units) ha (fun as B H B1 H1 σ v Q e1 o1 r1 q => by
      cases r1 with
      | tup g1 g2 =>
        have z := g2.ints
        subst z
        exact ⟨_, n, ns, rfl, same_t o1.sm g1, q _ B1 H1 e1 o1 (.int _)⟩) hm (by decide +kernel) hg (by decide) (by decide) he hpl
theorem je_maxT {n : Int} {ns : List Int} {V : WX} (C : Cok X V k) (hm : X.mg "max" = none) (ha : JE X W a s (.ok (.tup ((n :: ns).map .int))) s1) (hg : Gl X "max" := by rfl)
    (he : starEach (a :: []) X.env = (false, eval a X.env) :: starEach [] X.env := by rfl) (hpl : (backTo pos (starEach [] X.env)).any (·.1) = false := by rfl) : JE X W (.Call (.Name "max" p) [a] [] pos) s (.ok (.int (ns.foldl max n))) s1 :=
  je_call1 (cr_maxT C.calm C.hr.units) ha (fun as B H B1 H1 σ v Q e1 o1 r1 q => by
      cases r1 with
      | tup g1 g2 =>
        have z := g2.ints
        subst z
        exact ⟨_, n, ns, rfl, same_t o1.sm g1, q _ B1 H1 e1 o1 (.int _)⟩) hm (by decide +kernel) hg (by decide) (by decide) he hpl
end
end DL
set_option Elab.async false
set_option linter.all false
set_option maxRecDepth 100000
set_option maxHeartbeats 4000000
set_option autoImplicit true
/-! DLj: loops that fold -/
namespace DL
open PySem PySem.Spec PyProof.Rows L2
section
variable {X : Cx} {W : WX} {k : Nat} {e a b c tg iter elt : Expr} {es rest tgs ifs : List Expr} {st : Stmt} {sts body orelse : List Stmt} {s s' s1 s2 s3 : A} {P : Po} {d d' d1 d2 d3 da db dc : D} {r : Res} {ds : List D} {xs ys : List D} {pos p2 p apos pos' px py pz np : Pos} {x y z n : Str} {β β1 β2 : Bool} {op : CmpOp} {l : List Sl}
/-- s tells no less than t -/
def Le (s t : A) : Prop := s.cl = t.cl ∧ Les s.sl t.sl
theorem Le.refl (s : A) : Le s s := ⟨rfl, Les.refl _⟩
theorem jb_le {t : A} (h : Le s t) (k : JB X W sts t P) : JB X W sts s P := fun as B H σ ok Dn f => by
  have o := ok.less h.2
  rw [h.1] at o
  exact k as B H σ o Dn f
/-- the end of a turn, or of a branch -/
theorem jb_fin {t : A} (hP : P.nx t) (h1 : s.cl = t.cl := by rfl) (h : Les s.sl t.sl := by (repeat (first | exact Les.nil | apply Les.eq | apply Les.u))) : JB X W [] s P := jb_le ⟨h1, h⟩ (jb_nil hP)
theorem ixN_nat {n i : Nat} (h : i < n) : ixN n (i : Nat) = some i := by
  unfold ixN
  rw [if_pos (by omega), if_pos (by omega)]
  simp
/-- l[e2] = e, the place a number -/
theorem js_setN (i j : Nat) {cl : List Cl} {m : Nat} (he : JE X WN e s (.ok d) s1) (hb : JE X WN b s1 (.ok (.int (m : Nat))) s2) (hix : m < xs.length) (hP : P.nx ⟨l, cl⟩) (hsl : s2.sl = l := by (first | (dsimp only [List.set, List.length_cons, List.length_nil, List.cons_append, List.nil_append, Nat.reduceAdd]; done) | (dsimp only [List.set, List.length_cons, List.length_nil, List.cons_append, List.nil_append, Nat.reduceAdd]; exact rfl) | exact rfl)) (hi : s1.sl[i]? = some (.c j) := by rfl) (hc : s2.cl[j]? = some (.lst xs) := by rfl) (hcl : s2.cl.set j (.lst (xs.set m d)) = cl := by (first | (dsimp only [List.set, List.length_cons, List.length_nil, List.cons_append, List.nil_append, Nat.reduceAdd]; done) | (dsimp only [List.set, List.length_cons, List.length_nil, List.cons_append, List.nil_append, Nat.reduceAdd]; exact rfl) | exact rfl)) (hN : X.N[i]? = some x := by rfl)
    (hv : Vis X.env.scope x := by first | exact Or.inl rfl | exact Or.inr (Or.inl rfl) | exact Or.inr (Or.inr rfl)) (hd1 : (x == ("__debug__" : Str)) = false := by decide) (hd2 : (x == ("__classdict__" : Str)) = false := by decide)
    (ha : ∀ v, assign (.Subscript (.Name x p2) b p) X.env v = (do
      let ov ← holding [v] (eval (.Name x p2) X.env)
      let iv ← holding [v, ov] (eval b X.env)
      standAt p; holding [v, ov, iv] (setItem ov iv v); release [v, ov, iv] []) := by intro _; rfl)
    (hs : swapsWithSole [.Subscript (.Name x p2) b p] e pos.line X.env = pure false := by rfl) (hw : swappedStores [.Subscript (.Name x p2) b p] e X.env = pure none := by rfl)
    (h1 : (assignEach [.Subscript (.Name x p2) b p] X.env).map (·.2) = [assign (.Subscript (.Name x p2) b p) X.env] := by rfl) :
    JS X W (.Assign [.Subscript (.Name x p2) b p] e pos) s P := js_setix i j he hb (ixN_nat hix) hP hsl hi hc hcl hN hv hd1 hd2 ha hs hw h1
theorem flat_one {α : Type} (d : α) : ∀ k : Nat, (List.replicate k [d]).flatten = List.replicate k d
  | 0 => rfl
  | k + 1 => by rw [List.replicate_succ, List.flatten_cons, flat_one d k, List.replicate_succ]; rfl
theorem jf_rep1 {α : Type} (f : α → D) (a0 : α) (m : Nat) (ha : JE X WN a s (.ok (.lst [f a0])) s1) (hb : JE X WN b s1 (.ok (.int (m : Nat))) s2) (hn : m ≤ 16777216) : JF X (.BinOp a .Mult b pos) s ((List.replicate m a0).map f) s2 := by
  have h := jf_rep (pos := pos) ha hb (by omega) (by rw [sizeLine_eq, List.length_singleton]; omega)
  rw [Int.toNat_natCast, flat_one] at h
  rw [List.map_replicate]
  exact h
theorem js_le {t : A} (h : Le s t) (k : JS X W st t P) : JS X W st s P := fun as B H σ ok Dn f => by
  have o := ok.less h.2
  rw [h.1] at o
  exact k as B H σ o Dn f
/-- for: the state is S of a fold, Q holds of the fold so far -/
theorem js_fold {α γ : Type} (lst : List α) (f : γ → α → γ) (b0 : γ) (S : γ → A) (Q : Nat → γ → Prop) {enc : α → D} (C : Cok X W k) (hi : JI X tg iter (S b0) (lst.map enc) (S b0)) (q0 : Q 0 b0)
    (hs : ∀ i a b, (ha : lst[i]? = some a) → b = (lst.take i).foldl f b0 → Q i b → JG X tg (enc a) (S b) fun s2 => JB X W body s2 { P with nx := fun s3 => s3 = S (f b a) ∧ Q (i + 1) (f b a), ct := fun s3 => s3 = S (f b a) ∧ Q (i + 1) (f b a), bk := P.nx })
    (hd : Q lst.length (lst.foldl f b0) → P.nx (S (lst.foldl f b0))) (h1 : s.cl = (S b0).cl := by rfl) (h2 : Les s.sl (S b0).sl := by (repeat (first | exact Les.nil | apply Les.eq | apply Les.u)))
    (hf : ∀ x, foldedSetIterable iter X.env x = pure x := by intro _; rfl) : JS X W (.For tg iter body [] pos) s P := by
  refine js_le ⟨h1, h2⟩ (js_for (fun i s' => s' = S ((lst.take i).foldl f b0) ∧ Q i ((lst.take i).foldl f b0)) C hi ⟨rfl, q0⟩ (fun i d s' hd' h => ?_) (fun s' h => ?_) hf)
  · obtain ⟨rfl, hq⟩ := h
    rw [List.getElem?_map] at hd'
    cases e : lst[i]? with
    | none => rw [e] at hd'; cases hd'
    | some a =>
      rw [e] at hd'
      have hd' : enc a = d := Option.some.inj hd'
      subst hd'
      have g := hs i a _ e rfl hq
      have e2 : (lst.take (i + 1)).foldl f b0 = f ((lst.take i).foldl f b0) a := by
        rw [List.take_add_one, e, List.foldl_append]
        rfl
      rw [e2]
      exact g
  · obtain ⟨rfl, hq⟩ := h
    rw [List.length_map, List.take_length] at hq ⊢
    exact hd hq
end
end DL
set_option Elab.async false
set_option linter.all false
set_option maxRecDepth 100000
set_option maxHeartbeats 4000000
set_option autoImplicit true
/-! DLk: dicts with tuples of numbers as keys; calls that hand cells -/
namespace DL
open PySem PySem.Spec PyProof.Rows L2
/-! ### what a dict holds -/
def dval (kvs : List (List Key × D)) (k : List Key) : Option D := (kvs.find? fun kv => decide (kv.1 = k)).map (·.2)
def dput (kvs : List (List Key × D)) (k : List Key) (d : D) : List (List Key × D) :=
  if (kvs.any fun kv => decide (kv.1 = k)) = true then kvs.map (fun kv => if kv.1 = k then (kv.1, d) else kv) else kvs ++ [(k, d)]
def nkey (ns : List Int) : List Key := ns.map .inl
theorem nkey_kV (ns : List Int) : (nkey ns).map kV = ns.map V.int := by unfold nkey; rw [List.map_map]; rfl
section
variable {K : PySem.W.Frag} {B : Hp}
theorem dval_rep {k : List Key} : ∀ {kvs : List (List Key × D)} {us : List (List Key × V)}, us.map (·.1) = kvs.map (·.1) → Reps K B (us.map (·.2)) (kvs.map (·.2)) →
    match dval kvs k with
    | none => valV us k = none
    | some d => ∃ v, valV us k = some v ∧ Rep K B v d
  | [], [], _, _ => rfl
  | [], _ :: _, h, _ => by simp at h
  | _ :: _, [], h, _ => by simp at h
  | (k1, d1) :: kvs, (k2, v2) :: us, h, r => by
    rw [List.map_cons, List.map_cons] at h r
    injection h with h1 h2
    cases r with
    | cons r1 r2 =>
      have ih := dval_rep (k := k) h2 r2
      have h1' : k2 = k1 := h1
      subst h1'
      by_cases e : k2 = k
      · have e1 : dval ((k2, d1) :: kvs) k = some d1 := by simp [dval, List.find?_cons, e]
        rw [e1, valV_pos e]
        exact ⟨_, rfl, r1⟩
      · have e1 : dval ((k2, d1) :: kvs) k = dval kvs k := by simp [dval, List.find?_cons, e]
        rw [e1, valV_neg e]
        exact ih
theorem keys_any {κ α β : Type} [DecidableEq κ] (k : κ) : ∀ {l : List (κ × α)} {m : List (κ × β)}, l.map (·.1) = m.map (·.1) → (l.any fun kv => decide (kv.1 = k)) = m.any fun kv => decide (kv.1 = k)
  | [], [], _ => rfl
  | [], _ :: _, h => by simp at h
  | _ :: _, [], h => by simp at h
  | p :: l, q :: m, h => by
    rw [List.map_cons, List.map_cons] at h
    injection h with h1 h2
    rw [List.any_cons, List.any_cons, keys_any k h2, h1]
theorem keys_put {κ α β : Type} [DecidableEq κ] (k : κ) (x : α) (y : β) : ∀ {l : List (κ × α)} {m : List (κ × β)}, l.map (·.1) = m.map (·.1) → (l.map fun kv => if kv.1 = k then (kv.1, x) else kv).map (·.1) = (m.map fun kv => if kv.1 = k then (kv.1, y) else kv).map (·.1)
  | [], [], _ => rfl
  | [], _ :: _, h => by simp at h
  | _ :: _, [], h => by simp at h
  | p :: l, q :: m, h => by
    rw [List.map_cons, List.map_cons] at h
    injection h with h1 h2
    rw [List.map_cons, List.map_cons, List.map_cons, List.map_cons, keys_put k x y h2]
    congr 1
    by_cases e : p.1 = k
    · rw [if_pos e, if_pos (h1 ▸ e)]; exact h1
    · rw [if_neg e, if_neg (h1 ▸ e)]; exact h1
theorem vals_put {k : List Key} {v : V} {d : D} (r0 : Rep K B v d) : ∀ {kvs : List (List Key × D)} {us : List (List Key × V)}, us.map (·.1) = kvs.map (·.1) → Reps K B (us.map (·.2)) (kvs.map (·.2)) →
    Reps K B ((us.map fun kv => if kv.1 = k then (kv.1, v) else kv).map (·.2)) ((kvs.map fun kv => if kv.1 = k then (kv.1, d) else kv).map (·.2))
  | [], [], _, _ => .nil
  | [], _ :: _, h, _ => by simp at h
  | _ :: _, [], h, _ => by simp at h
  | p :: kvs, q :: us, h, r => by
    rw [List.map_cons, List.map_cons] at h r
    injection h with h1 h2
    cases r with
    | cons r1 r2 =>
      have ih := vals_put (k := k) r0 h2 r2
      rw [List.map_cons, List.map_cons, List.map_cons, List.map_cons]
      refine .cons ?_ ih
      by_cases e : q.1 = k
      · rw [if_pos e, if_pos (h1 ▸ e)]; exact r0
      · rw [if_neg e, if_neg (h1 ▸ e)]; exact r1
theorem put_keys {k : List Key} {v : V} {d : D} {kvs : List (List Key × D)} {us : List (List Key × V)} (h : us.map (·.1) = kvs.map (·.1)) : (putK us k v).map (·.1) = (dput kvs k d).map (·.1) := by
  unfold putK dput
  rw [keys_any k h]
  split
  · exact keys_put k v d h
  · rw [List.map_append, List.map_append, h]; rfl
theorem put_vals {k : List Key} {v : V} {d : D} (r0 : Rep K B v d) {kvs : List (List Key × D)} {us : List (List Key × V)} (h : us.map (·.1) = kvs.map (·.1)) (r : Reps K B (us.map (·.2)) (kvs.map (·.2))) : Reps K B ((putK us k v).map (·.2)) ((dput kvs k d).map (·.2)) := by
  unfold putK dput
  rw [keys_any k h]
  split
  · exact vals_put r0 h r
  · rw [List.map_append, List.map_append]; exact r.append (.cons r0 .nil)
end
section
variable {X : Cx} {W : WX} {k : Nat} {e a b c : Expr} {es : List Expr} {s s' s1 s2 s3 : A} {P : Po} {d da db : D} {r : Res} {ds : List D} {xs ys : List D} {sls : List Sl} {pos p2 p apos pos' py : Pos} {x y : Str} {β : Bool} {l : List Sl} {cl : List Cl} {ns : List Int} {kvs : List (List Key × D)} {q : Nat}
theorem Cok.u1 (C : Cok X W k) : X.A.units + 1 < cLine := by have := C.hr.un; omega
/-- x = {}: a cell -/
theorem js_newD (i : Nat) (C : Cok X W k) (hP : P.nx ⟨l, cl⟩) (hl : s.sl.set i (.c s.cl.length) = l := by (first | (dsimp only [List.set, List.length_cons, List.length_nil, List.cons_append, List.nil_append, Nat.reduceAdd]; done) | (dsimp only [List.set, List.length_cons, List.length_nil, List.cons_append, List.nil_append, Nat.reduceAdd]; exact rfl) | exact rfl)) (hcl : s.cl ++ [.dic []] = cl := by (first | (dsimp only [List.set, List.length_cons, List.length_nil, List.cons_append, List.nil_append, Nat.reduceAdd]; done) | (dsimp only [List.set, List.length_cons, List.length_nil, List.cons_append, List.nil_append, Nat.reduceAdd]; exact rfl) | exact rfl)) (hi : X.N[i]? = some x := by rfl) (hx : Loc X.env.scope x := by first | exact .inl rfl | exact .inr rfl) (hn : i < s.sl.length := by exact of_decide_eq_true rfl) (hs : swapsWith (.Dict [] [] p) (some (.Name x pos')) pos.line X.env = pure false := by rfl) (hf : X.fn x = true ∨ X.env.scope.names.lookup x = some .local := by first | exact .inl rfl | exact .inr rfl) :
    JS X W (.Assign [.Name x pos'] (.Dict [] [] p) pos) s P := js_of (ps_set C.nd hi hx pe_dnewT hs hf) fun as B H σ ok Dn f => fun p hp => by
  obtain ⟨o1, x1⟩ := ok.cell (o := .dT []) (c := .dic []) hp ⟨[], upd_same, rfl, .nil⟩
  have hl1 := ok.cs.1
  have o2 := o1.store (i := i) (o := some (.ref p)) (x := .c s.cl.length) hn ⟨p, by rw [← hl1, List.getElem?_append_right (Nat.le_refl _)]; simp, rfl⟩
  dsimp only at o2
  rw [hl] at o2
  rw [← hcl] at hP
  exact f.nx _ _ _ _ _ x1 o2 hP
/-- the key of a dict, made for one look -/
theorem key_new {as : List Addr} {B H : Hp} {σ : L2.St} {vs : List V} {K : PySem.W.Frag} {s : A} (ok : Ok K as B H σ s) (r : Reps K B vs (ns.map .int)) {b : Addr} (hb : H b = none) : Ok K as (upd B b (.tup vs)) (upd H b (.tup vs)) σ s ∧ Ext as B H as (upd B b (.tup vs)) (upd H b (.tup vs)) ∧ (upd H b (.tup vs)) b = some (.tup ((nkey ns).map kV)) := by
  obtain ⟨o1, x1⟩ := ok.new (o := .tup vs) hb
  refine ⟨o1, x1, ?_⟩
  rw [upd_same, nkey_kV, r.ints]
/-- (..) not in d, (..) in d -/
theorem jt_dnin (i : Nat) {j q : Nat} (C : Cok X W k) (h : JD X es s (ns.map .int) s) (hlen : ns.length ≤ sizeLine := by exact Nat.le_of_ble_eq_true rfl) (hi : s.sl[i]? = some (.c j) := by rfl) (hc : s.cl[j]? = some (.dic kvs) := by rfl) (hN : X.N[i]? = some x := by rfl)
    (hv : Vis X.env.scope x := by first | exact Or.inl rfl | exact Or.inr (Or.inl rfl) | exact Or.inr (Or.inr rfl)) (hd1 : (x == ("__debug__" : Str)) = false := by decide) (hd2 : (x == ("__classdict__" : Str)) = false := by decide)
    (hm : behindInMarks .NotIn (.Name x p) = false := by first | exact nobehind _ (by decide) (by decide) | rfl) : JT X (.Compare (.Tuple es q p2) [.NotIn] [.Name x p] pos) s (!(dval kvs (nkey ns)).isSome) :=
  jt_of (pt_cmp (pc_dnotin C.u1 (pe_tup pa_w) (pe_var hN hv hd1 hd2)) hm) fun as B H σ ok Q q => h as B H σ ok _ fun vs B1 H1 e1 o1 r => by
    have ln := r.length
    rw [List.length_map] at ln
    refine ⟨by omega, fun b hb => ?_⟩
    obtain ⟨o2, e2, hkey⟩ := key_new o1 r hb
    obtain ⟨a, v1, ha⟩ := cell_of o2 hi
    obtain ⟨us, hu, hks, hvs⟩ := o2.cs.2 j a _ ha hc
    refine ⟨.ref a, v1, a, valV us (nkey ns), rfl, .t hu hkey, _, rfl, ?_⟩
    have z := dval_rep (k := nkey ns) hks hvs
    have ez : (dval kvs (nkey ns)).isSome = (valV us (nkey ns)).isSome := by
      cases e : dval kvs (nkey ns) with
      | none => rw [e] at z; rw [show valV us (nkey ns) = none from z]; rfl
      | some d => rw [e] at z; obtain ⟨v, z, _⟩ := z; rw [z]; rfl
    rw [ez] at q
    exact q _ _ (e1.trans e2) o2
/-- d[(..)] -/
theorem je_dget (i : Nat) {j q : Nat} (C : Cok X W k) (h : JD X es s (ns.map .int) s1) (hg : dval kvs (nkey ns) = some d) (hlen : ns.length ≤ sizeLine := by exact Nat.le_of_ble_eq_true rfl) (hi : s.sl[i]? = some (.c j) := by rfl) (hc : s1.cl[j]? = some (.dic kvs) := by rfl) (hN : X.N[i]? = some x := by rfl)
    (hv : Vis X.env.scope x := by first | exact Or.inl rfl | exact Or.inr (Or.inl rfl) | exact Or.inr (Or.inr rfl)) (hd1 : (x == ("__debug__" : Str)) = false := by decide) (hd2 : (x == ("__classdict__" : Str)) = false := by decide)
    (hno : NoSl (.Tuple es q p2) := by first | exact fun _ _ => rfl | (intro _ _; rfl)) : JE X W (.Subscript (.Name x p) (.Tuple es q p2) pos) s (.ok d) s1 :=
  je_of (pe_dget C.u1 (pe_var hN hv hd1 hd2) (pe_tup pa_w) hno) fun as B H σ ok Q q => by
    obtain ⟨a, v1, ha⟩ := cell_of ok hi
    refine ⟨.ref a, v1, h as B H σ ok _ fun vs B1 H1 e1 o1 r => ?_⟩
    have ln := r.length
    rw [List.length_map] at ln
    refine ⟨by omega, fun b hb => ?_⟩
    obtain ⟨o2, e2, hkey⟩ := key_new o1 r hb
    obtain ⟨us, hu, hks, hvs⟩ := o2.cs.2 j a _ ha hc
    have z := dval_rep (k := nkey ns) hks hvs
    rw [hg] at z
    obtain ⟨v, z, rv⟩ := z
    exact ⟨a, v, rfl, by rw [← z]; exact .t hu hkey, q v _ _ (e1.trans e2) o2 rv⟩
/-- d[(..)] = e -/
theorem js_dput (i j : Nat) {q : Nat} (C : Cok X W k) (he : JE X WN e s (.ok d) s1) (h : JD X es s1 (ns.map .int) s2) (hm : kvs.length < sizeLine) (hP : P.nx ⟨l, cl⟩) (hsl : s2.sl = l := by (first | (dsimp only [List.set, List.length_cons, List.length_nil, List.cons_append, List.nil_append, Nat.reduceAdd]; done) | (dsimp only [List.set, List.length_cons, List.length_nil, List.cons_append, List.nil_append, Nat.reduceAdd]; exact rfl) | exact rfl))
    (hi : s1.sl[i]? = some (.c j) := by rfl) (hc : s2.cl[j]? = some (.dic kvs) := by rfl) (hcl : s2.cl.set j (.dic (dput kvs (nkey ns) d)) = cl := by (first | (dsimp only [List.set, List.length_cons, List.length_nil, List.cons_append, List.nil_append, Nat.reduceAdd]; done) | (dsimp only [List.set, List.length_cons, List.length_nil, List.cons_append, List.nil_append, Nat.reduceAdd]; exact rfl) | exact rfl)) (hlen : ns.length ≤ sizeLine := by exact Nat.le_of_ble_eq_true rfl) (hN : X.N[i]? = some x := by rfl)
    (hv : Vis X.env.scope x := by first | exact Or.inl rfl | exact Or.inr (Or.inl rfl) | exact Or.inr (Or.inr rfl)) (hd1 : (x == ("__debug__" : Str)) = false := by decide) (hd2 : (x == ("__classdict__" : Str)) = false := by decide)
    (hs : swapsWith e (some (.Subscript (.Name x p) (.Tuple es q p2) pos')) pos.line X.env = pure false := by rfl) : JS X W (.Assign [.Subscript (.Name x p) (.Tuple es q p2) pos'] e pos) s P :=
  js_of (ps_dput C.u1 (pe_var hN hv hd1 hd2) (pe_tup pa_w) pe_w hs) fun as B H σ ok Dn f => Ok.one he ok fun v B1 H1 x1 o1 r1 => by
    obtain ⟨a, v1, ha⟩ := cell_of o1 hi
    refine ⟨.ref a, v1, h as B1 H1 σ o1 _ fun vs B2 H2 x2 o2 r => ?_⟩
    have ln := r.length
    rw [List.length_map] at ln
    refine ⟨by omega, fun b hb => ?_⟩
    obtain ⟨o3, x3, hkey⟩ := key_new o2 r hb
    obtain ⟨us, hu, hks, hvs⟩ := o3.cs.2 j a _ ha hc
    have hl2 : us.length = kvs.length := by have := congrArg List.length hks; rwa [List.length_map, List.length_map] at this
    obtain ⟨o4, x4⟩ := o3.wr (o := .dT (putK us (nkey ns) v)) (c' := .dic (dput kvs (nkey ns) d)) ha hc True.intro ⟨_, upd_same, put_keys hks, put_vals ((r1.mono x2.b).mono x3.b) hks hvs⟩
    rw [hcl] at o4
    rw [← hsl] at hP
    exact ⟨a, _, rfl, .t hu hkey (by omega), f.nx as _ _ σ _ (((x1.trans x2).trans x3).trans x4) o4 hP⟩
/-! ### arguments that are cells -/
theorem ArgsOk.mono {K : PySem.W.Frag} {B B' : Hp} {as : List Addr} (e : Same B B') : ∀ {vs : List V} {xs : List Sl}, ArgsOk K B as vs xs → ArgsOk K B' as vs xs
  | _, _, .nil => .nil
  | _, _, .cons h t => .cons (h.mono e ⟨[], by simp⟩) (t.mono e)
theorem ja_nil : JA X [] s [] s := fun as B H σ ok Q q => wA_of pa_nil (q [] B H (Ext.refl ..) ok .nil)
theorem ja_val (ha : JE X WN e s (.ok d) s1) (hr : JA X es s1 sls s2) (hs : starEach (e :: es) X.env = (false, eval e X.env) :: starEach es X.env := by rfl) : JA X (e :: es) s (.d d :: sls) s2 :=
  fun as B H σ ok Q q => wA_of (pa_cons pe_w pa_w hs) (Ok.one ha ok fun v B1 H1 e1 o1 r => hr as B1 H1 σ o1 _ fun vs B2 H2 e2 o2 rr => q _ B2 H2 (e1.trans e2) o2 (.cons ⟨v, rfl, r.mono e2.b⟩ rr))
theorem ja_cell (i : Nat) {j : Nat} (hr : JA X es s sls s2) (hi : s.sl[i]? = some (.c j) := by rfl) (hN : X.N[i]? = some x := by rfl) (hv : Vis X.env.scope x := by first | exact Or.inl rfl | exact Or.inr (Or.inl rfl) | exact Or.inr (Or.inr rfl)) (hd1 : (x == ("__debug__" : Str)) = false := by decide) (hd2 : (x == ("__classdict__" : Str)) = false := by decide)
    (hs : starEach (.Name x p :: es) X.env = (false, eval (.Name x p) X.env) :: starEach es X.env := by rfl) : JA X (.Name x p :: es) s (.c j :: sls) s2 :=
  fun as B H σ ok Q q => wA_of (pa_cons (pe_var hN hv hd1 hd2) pa_w hs) (by
    obtain ⟨a, v1, ha⟩ := cell_of ok hi
    exact ⟨.ref a, v1, hr as B H σ ok _ fun vs B2 H2 e2 o2 rr => q _ B2 H2 e2 o2 (.cons ⟨a, ha, rfl⟩ rr)⟩)
/-- a cell speaks of cells below m alone -/
def Sl.below (m : Nat) : Sl → Bool
  | .c j => decide (j < m)
  | _ => true
def Cl.below (m : Nat) : Cl → Bool
  | .ins _ fs => fs.all fun f => f.2.below m
  | _ => true
theorem SlOk.cut {K : PySem.W.Frag} {B : Hp} {as as' : List Addr} {m : Nat} {o : Option V} {y : Sl} (h : SlOk K B as o y) (hb : y.below m = true) (e : ∀ j, j < m → as'[j]? = as[j]?) : SlOk K B as' o y := by
  cases y with
  | u => exact True.intro
  | d z => exact h
  | c j =>
    obtain ⟨a, h1, h2⟩ := h
    exact ⟨a, by rw [e j (of_decide_eq_true hb)]; exact h1, h2⟩
theorem ClOk.cut {K : PySem.W.Frag} {B H : Hp} {as as' : List Addr} {m : Nat} {a : Addr} {c : Cl} (h : ClOk K B as H a c) (hb : c.below m = true) (e : ∀ j, j < m → as'[j]? = as[j]?) : ClOk K B as' H a c := by
  cases c with
  | lst ds => exact h
  | dic kvs => exact h
  | dead => exact True.intro
  | ins C fs =>
    obtain ⟨dx, fs', h1, h2, h3⟩ := h
    refine ⟨dx, fs', h1, h2, fun i z hz => (h3 i z hz).cut ?_ e⟩
    rw [List.getElem?_map] at hz
    cases q : fs[i]? with
    | none => rw [q] at hz; cases hz
    | some f =>
      rw [q] at hz
      cases hz
      exact List.all_eq_true.mp hb f (List.mem_of_getElem? q)
/-! ### defs that are handed cells -/
/-- called with the arguments sls, the first m cells being cl, it comes to r and leaves them as cl' -/
def spC (K : PySem.W.Frag) (m : Nat) (pre : List Sl → List Cl → Res → List Cl → Prop) : Sp := fun vs H Q E => ∃ (as : List Addr) (B : Hp) (sls : List Sl) (cl : List Cl) (r : Res) (cl' : List Cl), Ok K as B H (vs.map some) ⟨sls, cl⟩ ∧ cl.length = m ∧ pre sls cl r cl' ∧ match r with
  | .ok d => ∀ v as' B' H' c, Ext as B H as' B' H' → Ok K as' B' H' [] ⟨[], c⟩ → c.take m = cl' → Rep K B' v d → Q v H'
  | .er ce => ∀ as' B' H' c, Ext as B H as' B' H' → Ok K as' B' H' [] ⟨[], c⟩ → c.take m = cl' → E (.ref ce) none H'
structure FnC (P : Program) (w : World) (K : PySem.W.Frag) (mg : Str → Option Value) (base : Heap) (x : Str) (n m k : Nat) (pre : List Sl → List Cl → Res → List Cl → Prop) : Prop where
  ex : ∃ (f : Addr) (fd : FuncData) (ps : List Str), ps.length = n ∧ FnOk P w K mg base (L2.CX P w) k f fd ps (spC K m pre) ∧ mg x = some (.ref f) ∧ PySem.W.keepIn K (.ref f) = true ∧ Binds K fd ps []
theorem ArgsOk.length {K : PySem.W.Frag} {B : Hp} {as : List Addr} : ∀ {vs : List V} {xs : List Sl}, ArgsOk K B as vs xs → vs.length = xs.length
  | _, _, .nil => rfl
  | _, _, .cons _ t => by rw [List.length_cons, List.length_cons, t.length]
theorem ArgsOk.get {K : PySem.W.Frag} {B : Hp} {as : List Addr} : ∀ {vs : List V} {xs : List Sl} (i : Nat) (y : Sl), ArgsOk K B as vs xs → xs[i]? = some y → SlOk K B as (((vs.map some)[i]?).join) y
  | _, _, _, _, .nil, e => by simp at e
  | _, _, 0, _, .cons h _, e => by simp at e; subst e; exact h
  | _, _, i + 1, y, .cons _ t, e => by
    rw [List.getElem?_cons_succ] at e
    exact t.get i y e
/-- what a caller knows behind a call that had the first m of its cells -/
theorem ok_back {K : PySem.W.Frag} {as as' : List Addr} {B B' H H' : Hp} {σ : L2.St} {s : A} {m : Nat} {c : List Cl} (ok : Ok K as B H σ s) (hm : m ≤ s.cl.length) (x : Ext (as.take m) B H as' B' H') (o : Ok K as' B' H' [] ⟨[], c⟩) (hb : (c.take m).all (·.below m) = true) :
    Ext as B H as B' H' ∧ Ok K as B' H' σ ⟨s.sl, c.take m ++ s.cl.drop m⟩ := by
  have hl := ok.cs.1
  have sub : ∀ a, a ∉ as → a ∉ as.take m := fun a h z => h (List.mem_of_mem_take z)
  obtain ⟨ns, rfl, hns⟩ := x.l
  have hml : (as.take m).length = m := by rw [List.length_take]; omega
  have hcl : as.take m ++ ns = as.take m ++ ns := rfl
  have hc := o.cs.1
  rw [List.length_append, hml] at hc
  have hct : (c.take m).length = m := by rw [List.length_take]; dsimp only at hc; omega
  have same : ∀ j, j < m → as[j]? = (as.take m ++ ns)[j]? := fun j hj => by
    rw [List.getElem?_append_left (by omega), List.getElem?_take, if_pos hj]
  have far : ∀ j a, m ≤ j → as[j]? = some a → a ∉ as.take m := fun j a hj e z => by
    obtain ⟨i, hi, e2⟩ := List.getElem_of_mem z
    rw [List.length_take] at hi
    have e3 : as[i]? = some a := by
      rw [List.getElem_take] at e2
      rw [List.getElem?_eq_getElem (by omega), e2]
    have := nd_ix ok.nd e3 e
    omega
  refine ⟨⟨x.b, fun a u h e => x.k a u (sub a h) e, fun a e1 e2 h => x.n a e1 e2 (sub a h), ⟨[], by simp, fun _ z => nomatch z⟩, x.t⟩, o.sm, ok.nd, fun a ha => x.t a (ok.ht a ha), fun j a d h1 h2 h3 => ?_, ⟨?_, fun j a d h1 h2 => ?_⟩, ok.ln, fun i z hz => (ok.sl i z hz).mono x.b ⟨[], by simp⟩⟩
  · dsimp only at h2
    by_cases hj : j < m
    · rw [List.getElem?_append_left (by omega), List.getElem?_take, if_pos hj] at h2
      exact o.nb j a d (by rw [← same j hj]; exact h1) h2 h3
    · rw [List.getElem?_append_right (by omega), hct, List.getElem?_drop, Nat.add_sub_cancel' (by omega)] at h2
      exact x.n a (ok.nb j a d h1 h2 h3) (ok.ht a (List.mem_of_getElem? h1)) (far j a (by omega) h1)
  · dsimp only
    rw [List.length_append, hct, List.length_drop]
    omega
  · dsimp only at h2
    by_cases hj : j < m
    · rw [List.getElem?_append_left (by omega)] at h2
      have hbd : d.below m = true := List.all_eq_true.mp hb d (List.mem_of_getElem? h2)
      rw [List.getElem?_take, if_pos hj] at h2
      exact (o.cs.2 j a d (by rw [← same j hj]; exact h1) h2).cut hbd same
    · rw [List.getElem?_append_right (by omega), hct, List.getElem?_drop, Nat.add_sub_cancel' (by omega)] at h2
      exact (ok.cs.2 j a d h1 h2).mono x.b ⟨[], by simp⟩ fun _ u e => x.k a u (far j a (by omega) h1) e
theorem je_callC {n m j : Nat} {pre : List Sl → List Cl → Res → List Cl → Prop} {cl' : List Cl} (C : Cok X W k) (F : FnC X.prog X.w X.K X.mg X.base x n m j pre) (hk : j ≤ k) (ha : JA X (e :: es) s sls s1) (hp : pre sls (s1.cl.take m) r cl') (hm : m ≤ s1.cl.length := by exact of_decide_eq_true rfl) (hb1 : (s1.cl.take m).all (·.below m) = true := by rfl) (hb2 : cl'.all (·.below m) = true := by rfl) (hb3 : sls.all (·.below m) = true := by rfl)
    (hcl : cl' ++ s1.cl.drop m = cl := by exact rfl) (hg : Gl X x := by rfl) (hdb : (x == ("__debug__" : Str)) = false := by decide) (he : starEach (e :: es) X.env = (false, eval e X.env) :: starEach es X.env := by rfl) (hpl : (backTo pos (starEach es X.env)).any (·.1) = false := by rfl) :
    JE X W (.Call (.Name x p) (e :: es) [] pos) s r ⟨s1.sl, cl⟩ := fun as B H σ ok Q q => by
  obtain ⟨f, fd, ps, hn, hf, hmg, hkp, hb⟩ := F.ex
  refine wE_of (pe_callS hf (C.hr.mono hk) hg hmg hkp hb (fun σ => passAt C.tk σ) pa_w hdb he hpl) (ha as B H σ ok _ fun vs B1 H1 x1 o1 r1 => ?_)
  have hl := o1.cs.1
  have same : ∀ j, j < m → (as.take m)[j]? = as[j]? := fun j hj => by rw [List.getElem?_take, if_pos hj]
  have o0 : Ok X.K (as.take m) B1 H1 (vs.map some) ⟨sls, s1.cl.take m⟩ := by
    refine ⟨o1.sm, o1.nd.sublist (List.take_sublist _ _), fun a ha => o1.ht a (List.mem_of_mem_take ha), fun j a d h1 h2 h3 => ?_, ⟨by simp [hl], fun j a d h1 h2 => ?_⟩, by rw [List.length_map]; exact r1.length, fun i z hz => ?_⟩
    · dsimp only at h2
      rw [List.getElem?_take] at h1 h2
      split at h1
      · rename_i hj
        rw [if_pos hj] at h2
        exact o1.nb j a d h1 h2 h3
      · cases h1
    · dsimp only at h2
      have hbd : d.below m = true := List.all_eq_true.mp hb1 d (List.mem_of_getElem? h2)
      rw [List.getElem?_take] at h1 h2
      split at h1
      · rename_i hj
        rw [if_pos hj] at h2
        exact (o1.cs.2 j a d h1 h2).cut hbd same
      · cases h1
    · exact (r1.get i z hz).cut (List.all_eq_true.mp hb3 z (List.mem_of_getElem? hz)) same
  refine ⟨as.take m, B1, sls, s1.cl.take m, r, cl', o0, by rw [List.length_take]; omega, hp, ?_⟩
  cases r with
  | ok d =>
    intro v as' B' H' c y o hc rv
    obtain ⟨x2, o2⟩ := ok_back o1 hm y o (by rw [hc]; exact hb2)
    rw [hc, hcl] at o2
    exact q v B' H' (x1.trans x2) o2 rv
  | er ce =>
    intro as' B' H' c y o hc
    obtain ⟨x2, o2⟩ := ok_back o1 hm y o (by rw [hc]; exact hb2)
    rw [hc, hcl] at o2
    exact q B' H' (x1.trans x2) o2
/-- what a body is to reach, its first m cells being cl' at the end -/
def PoC (m : Nat) (r : Res) (cl' : List Cl) : Po := { nx := fun s => r = .ok .non ∧ s.cl.take m = cl', rt := fun d c => r = .ok d ∧ c.take m = cl', bk := fun _ => False, ct := fun _ => False, ex := fun c s => r = .er c ∧ s.cl.take m = cl' }
def slC (N : List Str) (sls : List Sl) : List Sl := sls ++ List.replicate (N.length - sls.length) .u
theorem Ok.none {K : PySem.W.Frag} {as : List Addr} {B H : Hp} {σ : L2.St} {s : A} (h : Ok K as B H σ s) : Ok K as B H [] ⟨[], s.cl⟩ := ⟨h.sm, h.nd, h.ht, h.nb, h.cs, rfl, fun i z e => by simp at e⟩
theorem ok_startC {K : PySem.W.Frag} {as : List Addr} {N : List Str} {B H : Hp} {vs : List V} {cl : List Cl} (o : Ok K as B H (vs.map some) ⟨sls, cl⟩) (hl : sls.length ≤ N.length) : Ok K as B H (L2.start N vs) ⟨slC N sls, cl⟩ where
  sm := o.sm
  nd := o.nd
  ht := o.ht
  nb := o.nb
  cs := o.cs
  ln := by
    have := o.ln
    simp at this
    simp [L2.start, slC]
    omega
  sl := fun i z hz => by
    have ln := o.ln
    simp at ln
    have hz' : (sls ++ List.replicate (N.length - sls.length) .u)[i]? = some z := hz
    unfold L2.start
    by_cases hi : i < sls.length
    · rw [List.getElem?_append_left hi] at hz'
      rw [List.getElem?_append_left (by simp; omega)]
      exact o.sl i z hz'
    · rw [List.getElem?_append_right (by omega), List.getElem?_replicate] at hz'
      split at hz'
      · cases hz'; exact True.intro
      · cases hz'
end
section
variable {Pg : Program} {w : World} {K : PySem.W.Frag} {mg : Str → Option Value} {base : Heap} {x : Str} {st : Stmt} {k : Nat}
theorem fn_okC {qual : Str} {f : Addr} {fd : FuncData} {N ps : List Str} {m : Nat} {pre : List Sl → List Cl → Res → List Cl → Prop} (F : Fun K x qual st f fd) (S : FnScope N ps (defScope st)) (hb : Binds K fd ps []) (hm : mg x = some (.ref f)) (hlen : ∀ sls cl r cl', pre sls cl r cl' → sls.length = ps.length) (hN : ps.length ≤ N.length := by (show _ ≤ _; decide))
    (body : ∀ (cdv : Value) (A : Around) (outer : List Env) (s : Shared) (H : Hp) (E : XK), Cok (cxOf (L2.CX Pg w) Pg w K mg base N qual (defScope st) f cdv A outer s H E) (fun cls d _ H => E cls d H) k → ∀ sls cl r cl', cl.length = m → pre sls cl r cl' →
      JB (cxOf (L2.CX Pg w) Pg w K mg base N qual (defScope st) f cdv A outer s H E) (fun cls d _ H => E cls d H) (defBody st) ⟨slC N sls, cl⟩ (PoC m r cl')) : FnC Pg w K mg base x ps.length m (k + 1) pre where
  ex := ⟨f, fd, ps, rfl, F.okX S (fun vs H Q E h => by
      obtain ⟨as, B, sls, cl, r, cl', o, _, hp, _⟩ := h
      have ln := o.ln
      simp at ln
      rw [ln]
      exact hlen _ _ _ _ hp) (fun cdv A outer s H vs Q E hr h => by
      obtain ⟨as, B, sls, cl, r, cl', o, hml, hp, q⟩ := h
      refine ⟨_, pss_w, ?_⟩
      have C : Cok (cxOf (L2.CX Pg w) Pg w K mg base N qual (defScope st) f cdv A outer s H E) (fun cls d _ H => E cls d H) k := ⟨hr, takes_of rfl rfl rfl rfl, rfl, passes_of rfl, S.nd⟩
      refine body cdv A outer s H E C sls cl r cl' hml hp as B H _ (ok_startC o (by rw [hlen _ _ _ _ hp]; exact hN)) _ ⟨?_, ?_, ?_, ?_, ?_⟩
      · intro as' B' H' σ' s' y o' z
        obtain ⟨z', zc⟩ := z
        subst z'
        exact q .non as' B' H' s'.cl y o'.none zc .non
      · intro as' B' H' σ' s' v d y o' rv z
        obtain ⟨z', zc⟩ := z
        subst z'
        exact q v as' B' H' s'.cl y o'.none zc rv
      · intro as' B' H' σ' s' y o' z; exact z.elim
      · intro as' B' H' σ' s' y o' z; exact z.elim
      · intro as' B' H' σ' s' c y o' z
        obtain ⟨z', zc⟩ := z
        subst z'
        exact q as' B' H' s'.cl y o'.none zc), hm, F.kp, hb⟩
end
end DL
set_option Elab.async false
set_option linter.all false
set_option maxRecDepth 100000
set_option maxHeartbeats 4000000
set_option autoImplicit true
/-! DLl: comprehensions that change cells; calls without arguments; a pair turned round -/
namespace DL
open PySem PySem.Spec PyProof.Rows L2
def foldO {α γ : Type} (g : γ → α → γ) (o : γ → α → D) : γ → List α → List D
  | _, [] => []
  | b, a :: l => o b a :: foldO g o (g b a) l
theorem foldO_snoc {α γ : Type} (g : γ → α → γ) (o : γ → α → D) (a : α) : ∀ (l : List α) (b : γ), foldO g o b (l ++ [a]) = foldO g o b l ++ [o (l.foldl g b) a]
  | [], b => rfl
  | x :: l, b => by
    show o b x :: foldO g o (g b x) (l ++ [a]) = _
    rw [foldO_snoc g o a l (g b x)]
    rfl
theorem foldO_len {α γ : Type} (g : γ → α → γ) (o : γ → α → D) : ∀ (l : List α) (b : γ), (foldO g o b l).length = l.length
  | [], _ => rfl
  | _ :: l, b => by rw [foldO, List.length_cons, List.length_cons, foldO_len g o l]
section
variable {X : Cx} {W : WX} {k : Nat} {e a b c tg iter elt : Expr} {es rest tgs ifs : List Expr} {s s' s1 s2 s3 : A} {d d' d1 d2 d3 da db dc : D} {r : Res} {ds : List D} {xs ys : List D} {pos p2 p apos pos' px py pz np p1 p3 : Pos} {x y z n : Str} {scope : Scope} {own : List (Str × Nat)}
/-- [elt for x in l], the cells changed from item to item: b the state so far, S its cells, Q what holds of it -/
theorem lc_fold {α γ : Type} (i : Nat) (lst : List α) (b0 : γ) (g : γ → α → γ) (o : γ → α → D) (S : γ → List Cl) (Q : Nat → γ → Prop) {enc : α → D} (C : Cok X W k) (hi : JI X (.Name x px) iter s (lst.map enc) s1) (h0 : S b0 = s1.cl) (q0 : Q 0 b0)
    (hs : ∀ j a b, lst[j]? = some a → b = (lst.take j).foldl g b0 → Q j b → Q (j + 1) (g b a) ∧ Blk X scope fun Y => Cok Y WN k → JE Y WN elt ⟨s1.sl.set i (.d (enc a)), S b⟩ (.ok (o b a)) ⟨s1.sl.set i (.d (enc a)), S (g b a)⟩) (hlen : lst.length ≤ sizeLine := by assumption)
    (hblk : blkC X.N X.env.scope scope [(x, i)] = true := by kernel_rfl) (hn : i < s1.sl.length := by exact of_decide_eq_true rfl) (hNi : X.N[i]? = some x := by rfl) (hloc : Blk X scope fun Y => Loc Y.env.scope x := by first | exact fun _ _ _ _ _ => Or.inl rfl | exact fun _ _ _ _ _ => Or.inr rfl) (hfn : Blk X scope fun Y => Y.fn x = true ∨ Y.env.scope.names.lookup x = some .local := by first | exact fun _ _ _ _ _ => .inr rfl | exact fun _ _ _ _ _ => .inl rfl) :
    Lc X (.Name x px) iter elt [] scope [(x, i)] (gName i) s (foldO g o b0 lst) ⟨s1.sl, S (lst.foldl g b0)⟩ := by
  have hQ : ∀ j, j ≤ lst.length → Q j ((lst.take j).foldl g b0) := by
    intro j
    induction j with
    | zero => intro _; exact q0
    | succ j ih =>
      intro hj
      have e : lst[j]? = some lst[j] := List.getElem?_eq_getElem (by omega)
      have := (hs j _ _ e rfl (ih (by omega))).1
      rw [List.take_add_one, e, List.foldl_append]
      exact this
  have h := lc_mk (elt := elt) (ifs := []) hi (tgt_name (K := X.K) hn) (blkOk_by hblk) (Nat.zero_le _) (fun s0 H0 C0 cl0 fp0 => pg_name C.nd hNi (hloc s0 H0 C0 cl0 fp0) (hfn s0 H0 C0 cl0 fp0)) (fun j => foldO g o b0 (lst.take j)) (fun j => S ((lst.take j).foldl g b0)) rfl h0 (fun j hj => by
    rw [foldO_len, List.length_take]
    rw [List.length_map] at hj
    omega) (fun j d hd => by
    rw [List.getElem?_map] at hd
    cases q : lst[j]? with
    | none => rw [q] at hd; cases hd
    | some a =>
      rw [q] at hd
      have hd' : enc a = d := Option.some.inj hd
      subst hd'
      have hj : j < lst.length := (List.getElem?_eq_some_iff.mp q).1
      have st := (hs j a _ q rfl (hQ j (by omega))).2
      have e1 : lst.take (j + 1) = lst.take j ++ [a] := by rw [List.take_add_one, q]; rfl
      refine ⟨s1.sl.set i (.d (enc a)), true, ?_, rfl, fun _ => ⟨o ((lst.take j).foldl g b0) a, fun s0 H0 C0 cl0 fp0 => ?_, ?_⟩, fun z => nomatch z⟩
      · show (s1.sl.set i .u).set i (.d (enc a)) = _
        rw [List.set_set]
      · rw [e1, List.foldl_append]
        exact st s0 H0 C0 cl0 fp0 (C.blk s0 H0 C0 cl0 fp0)
      · rw [e1, foldO_snoc])
  rw [List.length_map, List.take_length] at h
  exact h
/-- f() -/
theorem je_call0 {j : Nat} {pre : List D → Res → Prop} (C : Cok X W k) (F : Fn X.prog X.w X.K X.mg X.base x 0 j pre) (hk : j ≤ k) (hp : pre [] r) (hg : Gl X x := by rfl) (hdb : (x == ("__debug__" : Str)) = false := by decide) : JE X W (.Call (.Name x p) [] [] pos) s r s := fun as B H σ ok Q q => by
  obtain ⟨f, fd, ps, hn, hf, hm, hkp, hb⟩ := F.ex
  have P : PE X (.Call (.Name x p) [] [] pos) (tCallS (spD X.K pre) (WE W) tNil) := ⟨fun pins s σ H Q I h => wpAny_Call_Name_kw (ld_glob I hg hm (PySem.W.callWith_K0 I.kIn hkp (run_fnS (us := []) hf (C.hr.mono hk) hb (passAt C.tk σ) I .nil h)) hdb)⟩
  refine wE_of P ?_
  refine ⟨B, [], r, ok.sm, .nil, hp, ?_⟩
  have up : ∀ {B' H'}, Ext [] B H [] B' H' → Same B' H' → Ext as B H as B' H' ∧ Ok X.K as B' H' σ s := fun {B' H'} y sm => by
    have sH : Same H H' := fun a o e => y.k a o (fun z => nomatch z) e
    exact ⟨⟨y.b, fun a o _ e => sH _ _ e, fun a h1 h2 _ => y.n a h1 h2 (fun z => nomatch z), ⟨[], by simp, fun _ z => nomatch z⟩, y.t⟩,
      ⟨sm, ok.nd, fun a ha => y.t a (ok.ht a ha), fun j a c h1 h2 h3 => y.n a (ok.nb j a c h1 h2 h3) (ok.ht a (List.mem_of_getElem? h1)) (fun z => nomatch z), ⟨ok.cs.1, fun j a c h1 h2 => (ok.cs.2 j a c h1 h2).mono y.b ⟨[], by simp⟩ fun _ u e => sH _ _ e⟩, ok.ln, fun i z hz => (ok.sl i z hz).mono y.b ⟨[], by simp⟩⟩⟩
  cases r with
  | ok d =>
    intro v B' H' y sm rv
    obtain ⟨x2, o2⟩ := up y sm
    exact q v B' H' x2 o2 rv
  | er c =>
    intro B' H' y sm
    obtain ⟨x2, o2⟩ := up y sm
    exact q B' H' x2 o2
/-! ### a pair turned round -/
theorem applied_back {prog : Program} {w : World} {A : Around} {E : Value → Shared → Prop} {s : Shared} {sl : Addr} {vs : Value} {Q : Int × Int × Nat → Shared → Prop} (hs : s.heap.IsSliceOf sl .none .none vs) (ps : IsPart vs (some (-1)))
    (h : Q (1, -1, 2) s) : wpAny (model prog w) A (Builtin.Slice.sliceApplied (.ref sl) (pure (2 : Int))) Q E s := by
  obtain ⟨os, hos, hcs, hds⟩ := id hs
  unfold Builtin.Slice.sliceApplied Builtin.Slice.sliceFields
  refine wpAny_bind (wpAny_bind (wpAny_field hos hds (x := .none) rfl (wpAny_bind (wpAny_field hos hds (x := .none) rfl (wpAny_bind (wpAny_field hos hds (x := vs) rfl (wpAny_pure (wpAny_bind (HT.slicePart_ ps ?_)))))))))
  show wpAny _ _ (if ((-1 : Int) == 0) = true then _ else _) _ _ s
  rw [if_neg (by decide)]
  exact wpAny_bind (HT.slicePart_ .none (wpAny_bind (HT.slicePart_ .none (wpAny_bind (wpAny_pure (wpAny_pure h))))))
theorem item_back {prog : Program} {w : World} {A : Around} {E : Value → Shared → Prop} {s : Shared} {t sl : Addr} {u1 u2 vs : Value} {Q : Value → Shared → Prop} (ht : IsTup s.heap t #[u1, u2]) (hs : s.heap.IsSliceOf sl .none .none vs) (ps : IsPart vs (some (-1)))
    (h : Q (.ref s.heap.objs.size) { s with heap := s.heap.push { cls := .type "tuple", data := .seq #[u2, u1] } }) : wpAny (model prog w) A (getItem (.ref t) (.ref sl)) Q E s := by
  have size : sizeOk (.seq #[u2, u1]) := show (2 : Nat) ≤ sizeLine by rw [sizeLine_eq]; decide
  have tyS : s.TypeIs (.ref sl) "slice" := by
    obtain ⟨os, hos, hcs, _⟩ := id hs
    exact ⟨os, hos, hcs⟩
  unfold getItem
  try with_reducible refine wpAny_holding ?_
  first | refine wpAny_bind (wpAny_pure ?_) | skip
  refine wpAny_bind (wpAny_sequenceKey ht.typeIs (by decide) (wpAny_bind (wpAny_callSpecial?_slot (name := Str.ofString "__getitem__") ht.typeIs PyProof.Rows.slot_tuple_getitem
    (wpAny_call_entry PyProof.Rows.slot_tuple_getitem ht.typeIs PyProof.Rows.entry_tuple_getitem ?_ (PyProof.Rows.args_tuple_getitem _ _)))))
  show wpAny _ _ (Builtin.Tuple.tupleItemsOf (.ref t) >>= _) _ _ s
  refine wpAny_bind (tupleItemsOf_ ht (wpAny_bind (wpAny_typeOf tyS ?_)))
  rw [if_pos (by decide)]
  refine wpAny_bind (applied_back hs ps ?_)
  show wpAny _ _ (if ((1 : Int) == 0 && (-1 : Int) == 1 && (2 : Nat) == 2) = true then _ else _) _ _ s
  rw [if_neg (by decide)]
  first
    | exact wpAny_bind (m := Builtin.Tuple.tupleExact _) (wpAny_newObj_type (wpAny_pure ⟨_, rfl, wpAny_pure h⟩) size)
    | exact wpAny_bind (m := Builtin.Tuple.tupleExact _) (wpAny_newObj_type (wpAny_bind (wpAny_pure (wpAny_pure ⟨_, rfl, wpAny_pure h⟩))) size)
    | exact wpAny_bind (wpAny_bind (m := Builtin.Tuple.tupleExact _) (wpAny_newObj_type (wpAny_pure (wpAny_pure ⟨_, rfl, wpAny_pure h⟩)) size))
    | exact wpAny_bind (wpAny_bind (m := Builtin.Tuple.tupleExact _) (wpAny_newObj_type (wpAny_pure ⟨_, rfl, wpAny_pure h⟩) size))
def tBack (K : PySem.W.Frag) (te : TE) : TE := fun σ H Q => te σ H fun y H1 => ∃ a v1 v2, y = .ref a ∧ SqT K H1 a [v1, v2] ∧ ∀ p, H1 p = none → Q (.ref p) (upd H1 p (.tup [v2, v1]))
theorem pe_back {te : TE} {q : Nat} (he : PE X e te) : PE X (.Subscript e (.Slice none none (some (.UnaryOp .USub (.Constant (.int 1) q p1) p2)) p3) pos) (tBack X.K te) := by
  refine ⟨fun pins s σ H Q I h => Subscript_ (thn (he.run pins s σ H _ I h) fun v t ⟨y, H1, I1, r1, a, v1, v2, ey, hx, q1⟩ => ?_)⟩
  subst ey
  cases r1
  refine wpAny_Slice (thn (po_none.run pins t σ H1 (fun o H2 => o = none ∧ H2 = H1) I1 ⟨rfl, rfl⟩) fun vl t2 ⟨l, H2, I2, pl, el, e2⟩ => ?_)
  subst el e2
  refine thn (po_none.run pins t2 σ H2 (fun o H3 => o = none ∧ H3 = H2) I2 ⟨rfl, rfl⟩) fun vu t3 ⟨u, H3, I3, pu, eu, e3⟩ => ?_
  subst eu e3
  have minus : PO X (some (.UnaryOp .USub (.Constant (.int 1) q p1) p2)) (tPart (tUn (rU fun i => .int (-i)) (tC (.int 1)))) := po_some (pe_un un_neg pe_int)
  refine thn (minus.run pins t3 σ H3 (fun o H4 => o = some (-1) ∧ H4 = H3) I3 ⟨1, rfl, -1, rfl, rfl, rfl⟩) fun vs t4 ⟨o, H4, I4, ps, eo, e4⟩ => ?_
  subst eo e4
  cases pl
  cases pu
  have I5 : Inv X pins σ H4 { t4 with heap := t4.heap.push { cls := .type "slice", data := .fields #[.none, .none, vs] } } := I4.kept (t' := t4.toks) fun b ob z => Heap.get?_push_of_some _ z
  obtain ⟨its, rv, ht, hz⟩ := I5.tuple hx
  obtain ⟨u1, u2, rfl, w1, w2⟩ := vals2 rv
  show wpAny (model X.prog X.w) X.A (subscriptTail e (.Slice none none (some (.UnaryOp .USub (.Constant (.int 1) q p1) p2)) p3) (.ref a) (.ref t4.heap.objs.size)) (EP X pins σ Q) X.xe { t4 with heap := t4.heap.push { cls := .type "slice", data := .fields #[.none, .none, vs] } }
  refine tail_any (ops := [.ref a, .ref t4.heap.objs.size]) ht.typeIs PyProof.Rows.slot_tuple_getitem.lookup ?_ (by with_unfolding_all rfl)
  refine item_back ht (Heap.IsSliceOf.new _ _ _ vs) ps ?_
  exact ⟨.ref _, _, I5.laid (t' := t4.toks) (o := .tup [v2, v1]) (fun b ob z => Heap.get?_push_of_some _ z) (Nat.le_refl _) ⟨by show 2 ≤ sizeLine; rw [sizeLine_eq]; decide, _, .cons w2 (.cons w1 .nil), IsTup.new _ _⟩, rfl, q1 _ (I5.hok.fresh (Nat.le_refl _))⟩
/-- (a, b)[::-1] -/
theorem je_back {q : Nat} (he : JE X W e s (.ok (.tup [d1, d2])) s1) : JE X W (.Subscript e (.Slice none none (some (.UnaryOp .USub (.Constant (.int 1) q p1) p2)) p3) pos) s (.ok (.tup [d2, d1])) s1 :=
  je_of (pe_back pe_w) fun as B H σ ok Q q => Ok.one he ok fun x B1 H1 e1 o1 r1 => by
    cases r1 with
    | tup hs hr =>
      cases hr with
      | cons r1 hr =>
        cases hr with
        | cons r2 hr =>
          cases hr
          refine ⟨_, _, _, rfl, same_t o1.sm hs, fun p hp => ?_⟩
          obtain ⟨o3, e3⟩ := o1.new (o := .tup _) hp
          exact q _ _ _ (e1.trans e3) o3 (.tup (.inl (.inl upd_same)) (.cons (r2.mono e3.b) (.cons (r1.mono e3.b) .nil)))
/-- a, b = x, y -/
theorem js_par (i j : Nat) {P : Po} {W : WX} {l : List Sl} {cl : List Cl} {pt pt2 : Pos} {kt k2 : Nat} (C : Cok X W k) (h : JD X [a, b] s [d1, d2] s1) (hP : P.nx ⟨l, cl⟩) (hl : (s1.sl.set i (.d d1)).set j (.d d2) = l := by (first | (dsimp only [List.set, List.length_cons, List.length_nil, List.cons_append, List.nil_append, Nat.reduceAdd]; done) | (dsimp only [List.set, List.length_cons, List.length_nil, List.cons_append, List.nil_append, Nat.reduceAdd]; exact rfl) | exact rfl)) (hcl : s1.cl = cl := by (first | (dsimp only [List.set, List.length_cons, List.length_nil, List.cons_append, List.nil_append, Nat.reduceAdd]; done) | (dsimp only [List.set, List.length_cons, List.length_nil, List.cons_append, List.nil_append, Nat.reduceAdd]; exact rfl) | exact rfl))
    (hi : X.N[i]? = some x := by rfl) (hj : X.N[j]? = some y := by rfl) (hij : i ≠ j := by decide) (hx : X.env.scope.names.lookup x = some .local := by rfl) (hy : X.env.scope.names.lookup y = some .local := by rfl) (hni : i < s1.sl.length := by exact of_decide_eq_true rfl) (hnj : j < s1.sl.length := by exact of_decide_eq_true rfl)
    (hw : swappedStores [.Tuple [.Name x px, .Name y py] kt pt] (.Tuple [a, b] k2 pt2) X.env = pure (some [x, y]) := by rfl) (hs : swapsWithSole [.Tuple [.Name x px, .Name y py] kt pt] (.Tuple [a, b] k2 pt2) pos.line X.env = pure false := by rfl) :
    JS X W (.Assign [.Tuple [.Name x px, .Name y py] kt pt] (.Tuple [a, b] k2 pt2) pos) s P :=
  js_of (ps_par C.calm C.nd hi hj hij hx hy pa_w hw hs) fun as B H σ ok Dn f => h as B H σ ok _ fun vs B1 H1 x1 o1 r => by
    cases r with
    | cons r1 r =>
      cases r with
      | cons r2 r =>
        cases r
        have o2 := o1.store (i := i) (x := .d d1) hni ⟨_, rfl, r1⟩
        have o3 := o2.store (i := j) (x := .d d2) (by rw [List.length_set]; exact hnj) ⟨_, rfl, r2⟩
        dsimp only at o3
        rw [hl] at o3
        rw [← hcl] at hP
        exact ⟨_, _, rfl, f.nx as B1 H1 _ _ x1 o3 hP⟩
end
end DL
set_option Elab.async false
set_option linter.all false
set_option maxRecDepth 100000
set_option maxHeartbeats 4000000
set_option autoImplicit true
/-! DLm: cells that a block has made are forgotten at its end -/
namespace DL
open PySem PySem.Spec PyProof.Rows L2
structure Cut (n : Nat) (s t : A) : Prop where
  sl : t.sl = s.sl
  cl : t.cl = s.cl.take n
  bs : t.sl.all (·.below n) = true
  bc : t.cl.all (·.below n) = true
theorem Ok.cutTo {K : PySem.W.Frag} {as ns : List Addr} {B H : Hp} {σ : L2.St} {s t : A} (o : Ok K (as ++ ns) B H σ s) (c : Cut as.length s t) : Ok K as B H σ t := by
  have hl := o.cs.1
  rw [List.length_append] at hl
  have same : ∀ j, j < as.length → as[j]? = (as ++ ns)[j]? := fun j hj => by rw [List.getElem?_append_left hj]
  have at_ : ∀ {j : Nat} {a : Addr} {d : Cl}, as[j]? = some a → t.cl[j]? = some d → (as ++ ns)[j]? = some a ∧ s.cl[j]? = some d := fun {j a d} h1 h2 => by
    have hj := (List.getElem?_eq_some_iff.mp h1).1
    rw [c.cl, List.getElem?_take, if_pos hj] at h2
    exact ⟨by rw [← same j hj]; exact h1, h2⟩
  refine ⟨o.sm, o.nd.sublist (List.sublist_append_left _ _), fun a ha => o.ht a (List.mem_append_left _ ha), fun j a d h1 h2 h3 => ?_, ⟨?_, fun j a d h1 h2 => ?_⟩, by rw [c.sl]; exact o.ln, fun i x hx => ?_⟩
  · obtain ⟨e1, e2⟩ := at_ h1 h2
    exact o.nb j a d e1 e2 h3
  · rw [c.cl, List.length_take]
    omega
  · obtain ⟨e1, e2⟩ := at_ h1 h2
    exact (o.cs.2 j a d e1 e2).cut (List.all_eq_true.mp c.bc d (List.mem_of_getElem? h2)) same
  · have hb := List.all_eq_true.mp c.bs x (List.mem_of_getElem? hx)
    rw [c.sl] at hx
    exact (o.sl i x hx).cut hb same
section
variable {X : Cx} {W : WX} {sts : List Stmt} {s t : A} {P : Po}
/-- what holds at a block's end holds without the cells that it made -/
def dropP (n : Nat) (P : Po) : Po := { P with nx := fun s2 => ∃ s3, Cut n s2 s3 ∧ P.nx s3, ct := fun s2 => ∃ s3, Cut n s2 s3 ∧ P.ct s3 }
theorem jb_drop (h : JB X W sts s (dropP s.cl.length P)) : JB X W sts s P := fun as B H σ ok Dn f => by
  have hl := ok.cs.1
  have back : ∀ {as' B' H'}, Ext as B H as' B' H' → Ext as B H as B' H' := fun {as' B' H'} x => ⟨x.b, x.k, x.n, ⟨[], by simp, fun _ z => nomatch z⟩, x.t⟩
  refine h as B H σ ok Dn ⟨fun as' B' H' σ' s' x o ⟨s3, c, z⟩ => ?_, f.rt, f.bk, fun as' B' H' σ' s' x o ⟨s3, c, z⟩ => ?_, f.ex⟩
  · obtain ⟨ns, e, _⟩ := x.l
    rw [← hl] at c
    rw [e] at o
    exact f.nx as B' H' σ' s3 (back x) (o.cutTo c) z
  · obtain ⟨ns, e, _⟩ := x.l
    rw [← hl] at c
    rw [e] at o
    exact f.ct as B' H' σ' s3 (back x) (o.cutTo c) z
theorem jb_finD {n : Nat} (t : A) (hN : P.nx t) (h1 : s.cl.take n = t.cl := by rfl) (h : Les s.sl t.sl := by (repeat (first | exact Les.nil | apply Les.eq | apply Les.u))) (hb : t.sl.all (·.below n) = true := by rfl) (hc : t.cl.all (·.below n) = true := by rfl) : JB X W [] s (dropP n P) :=
  jb_end (l := t.sl) h ⟨t, ⟨rfl, h1.symm, hb, hc⟩, hN⟩
/-- for over a list that is a cell and stays as it is -/
theorem js_forC {tg : Expr} {x : Str} {p pos : Pos} {body : List Stmt} {ds : List D} {k : Nat} (i j : Nat) (I : Nat → A → Prop) (C : Cok X W k) (h0 : I 0 s) (keep : ∀ n s', I n s' → s'.cl[j]? = some (.lst ds)) (hs : ∀ n d s', ds[n]? = some d → I n s' → JG X tg d s' fun s2 => JB X W body s2 { P with nx := I (n + 1), ct := I (n + 1), bk := P.nx }) (hd : ∀ s', I ds.length s' → P.nx s')
    (hi : s.sl[i]? = some (.c j) := by rfl) (hN : X.N[i]? = some x := by rfl) (hv : Vis X.env.scope x := by first | exact Or.inl rfl | exact Or.inr (Or.inl rfl) | exact Or.inr (Or.inr rfl)) (hd1 : (x == ("__debug__" : Str)) = false := by decide) (hd2 : (x == ("__classdict__" : Str)) = false := by decide)
    (hf : ∀ z, foldedSetIterable (.Name x p) X.env z = pure z := by intro _; rfl) : JS X W (.For tg (.Name x p) body [] pos) s P :=
  js_of (ps_for C.hp C.calm (pi_list (pe_var hN hv hd1 hd2)) pg_w pss_w hf) fun as B H σ ok Dn f => by
    obtain ⟨a, v1, ha⟩ := cell_of ok hi
    obtain ⟨vs0, hv0, _⟩ := ok.cs.2 j a _ ha (keep 0 s h0)
    refine ⟨.ref a, v1, a, rfl, ⟨vs0, .inl (.inl hv0)⟩, fun n m σ' H' => m = ds.length - n ∧ n ≤ ds.length ∧ ∃ as' B' s', Ext as B H as' B' H' ∧ Ok X.K as' B' H' σ' s' ∧ I n s', ⟨ds.length, by simp, Nat.zero_le _, as, B, s, Ext.refl .., ok, h0⟩, ?_⟩
    rintro n m σ' H' ⟨rfl, hle, as', B', s', x2, o2, hI⟩
    obtain ⟨vs, hv', hr⟩ : ∃ vs, H' a = some (.lst vs) ∧ Reps X.K B' vs ds := by
      obtain ⟨ns, e, _⟩ := x2.l
      have ha' : as'[j]? = some a := by rw [e, List.getElem?_append_left (List.getElem?_eq_some_iff.mp ha).1]; exact ha
      exact o2.cs.2 j a _ ha' (keep n s' hI)
    have hl := hr.length
    by_cases hlt : n < ds.length
    · refine .inr ⟨⟨vs, vs[n]'(by omega), .inl (.inl hv'), List.getElem?_eq_getElem _⟩, fun σ2 H2 => ∃ as2 B2 s2, Ext as' B' H' as2 B2 H2 ∧ Ok X.K as2 B2 H2 σ2 s2 ∧ I (n + 1) s2, fun σ2 H2 ⟨as2, B2, s2, x3, o3, h3⟩ => ⟨ds.length - (n + 1), by omega, rfl, hlt, as2, B2, s2, x2.trans x3, o3, h3⟩, fun v H2 y => ?_⟩
      obtain ⟨rfl, e2⟩ := y
      obtain ⟨d, hd', r⟩ := hr.getV (e2 vs (.inl (.inl hv')))
      refine hs n d s' hd' hI as' B' H2 σ' v o2 r _ fun σ3 s3 o3 h3 => ?_
      exact h3 as' B' H2 σ3 o3 _ ⟨fun as4 B4 H4 σ4 s4 x4 o4 z => ⟨as4, B4, s4, x4, o4, z⟩, fun as4 B4 H4 σ4 s4 v d x4 => f.rt as4 B4 H4 σ4 s4 v d (x2.trans x4), fun as4 B4 H4 σ4 s4 x4 => f.nx as4 B4 H4 σ4 s4 (x2.trans x4),
        fun as4 B4 H4 σ4 s4 x4 o4 z => ⟨as4, B4, s4, x4, o4, z⟩, fun as4 B4 H4 σ4 s4 c x4 => f.ex as4 B4 H4 σ4 s4 c (x2.trans x4)⟩
    · have e : n = ds.length := by omega
      subst e
      exact .inl ⟨⟨vs, .inl (.inl hv'), Nat.le_of_eq hl⟩, f.nx as' B' H' σ' s' x2 o2 (hd s' hI)⟩
end
section
variable {X : Cx} {W : WX} {k : Nat} {e a b c tg iter elt : Expr} {es rest tgs ifs : List Expr} {st : Stmt} {sts body orelse : List Stmt} {s s' s1 s2 s3 : A} {P : Po} {d d' d1 d2 d3 da db dc : D} {r : Res} {ds : List D} {xs ys : List D} {pos p2 p apos pos' px py pz : Pos} {x y z : Str} {β β1 β2 : Bool} {op : CmpOp} {l : List Sl} {scope : Scope} {own : List (Str × Nat)} {R : A → Prop} {q : Nat}
/-- a list taken apart -/
theorem jg_lst {R : A → Prop} {j : Nat} {n : Nat} (C : X.calm = true) (h : JGs X es ds s R) (hl : ds.length = n) (hn : (assignEach es X.env).length = n := by rfl) (hst : (assignEach es X.env).findIdx? (·.1) = none := by rfl) : JG X (.Tuple es j pos) (.lst ds) s R :=
  fun as B H σ v ok r Q q => wG_of (pg_unl C pgs_w hn hst) (by
    cases r with
    | lst ha hv => exact ⟨_, _, rfl, .inl (.inl (ok.sm _ _ ha)), hv.length.trans hl, h as B H σ _ ok hv Q q⟩)
theorem jg_l3 (i j m : Nat) (C : Cok X W k) {cl : List Cl} (hR : R ⟨l, cl⟩) (hl : ((s.sl.set i (.d d1)).set j (.d d2)).set m (.d d3) = l := by (first | (dsimp only [List.set, List.length_cons, List.length_nil, List.cons_append, List.nil_append, Nat.reduceAdd]; done) | (dsimp only [List.set, List.length_cons, List.length_nil, List.cons_append, List.nil_append, Nat.reduceAdd]; exact rfl) | exact rfl)) (hcl : s.cl = cl := by (first | (dsimp only [List.set, List.length_cons, List.length_nil, List.cons_append, List.nil_append, Nat.reduceAdd]; done) | (dsimp only [List.set, List.length_cons, List.length_nil, List.cons_append, List.nil_append, Nat.reduceAdd]; exact rfl) | exact rfl)) (hi : X.N[i]? = some x := by rfl) (hj : X.N[j]? = some y := by rfl) (hm : X.N[m]? = some z := by rfl) (hx : Loc X.env.scope x := by first | exact .inl rfl | exact .inr rfl) (hy : Loc X.env.scope y := by first | exact .inl rfl | exact .inr rfl) (hz : Loc X.env.scope z := by first | exact .inl rfl | exact .inr rfl)
    (hn : i < s.sl.length := by exact of_decide_eq_true rfl) (hn2 : j < s.sl.length := by exact of_decide_eq_true rfl) (hn3 : m < s.sl.length := by exact of_decide_eq_true rfl) (hf : X.fn x = true ∨ X.env.scope.names.lookup x = some .local := by first | exact .inl rfl | exact .inr rfl) (hf2 : X.fn y = true ∨ X.env.scope.names.lookup y = some .local := by first | exact .inl rfl | exact .inr rfl) (hf3 : X.fn z = true ∨ X.env.scope.names.lookup z = some .local := by first | exact .inl rfl | exact .inr rfl)
    (h0 : (assignEach [Expr.Name x px, Expr.Name y py, Expr.Name z pz] X.env).map (·.2) = assign (.Name x px) X.env :: (assignEach [Expr.Name y py, Expr.Name z pz] X.env).map (·.2) := by rfl)
    (h1 : (assignEach [Expr.Name y py, Expr.Name z pz] X.env).map (·.2) = assign (.Name y py) X.env :: (assignEach [Expr.Name z pz] X.env).map (·.2) := by rfl) (h2 : (assignEach [Expr.Name z pz] X.env).map (·.2) = assign (.Name z pz) X.env :: (assignEach [] X.env).map (·.2) := by rfl)
    (h3 : (assignEach [Expr.Name x px, Expr.Name y py, Expr.Name z pz] X.env).length = 3 := by rfl) (h4 : (assignEach [Expr.Name x px, Expr.Name y py, Expr.Name z pz] X.env).findIdx? (·.1) = none := by rfl) : JG X (.Tuple [.Name x px, .Name y py, .Name z pz] q pos) (.lst [d1, d2, d3]) s R :=
  jg_lst C.calm (jgs_cons (jg_name i C.nd (jgs_cons (jg_name j C.nd (jgs_cons (jg_name m C.nd (jgs_nil (by rw [← hl, ← hcl] at hR; exact hR)) rfl rfl hm hz (by rw [List.length_set, List.length_set]; exact hn3) hf3) h2) rfl rfl hj hy (by rw [List.length_set]; exact hn2) hf2) h1) rfl rfl hi hx hn hf) h0) rfl h3 h4
/-- js_fold over a list that is a cell: the cells of S b hold it at j -/
theorem js_foldC {α γ : Type} {R : A → Prop} (i j : Nat) (lst : List α) (f : γ → α → γ) (b0 : γ) (S : γ → A) (Q : Nat → γ → Prop) {enc : α → D} (C : Cok X W k) (q0 : Q 0 b0) (keep : ∀ b, (S b).cl[j]? = some (.lst (lst.map enc)))
    (hs : ∀ n a b, (ha : lst[n]? = some a) → b = (lst.take n).foldl f b0 → Q n b → JG X tg (enc a) (S b) fun s2 => JB X W body s2 { P with nx := fun s3 => s3 = S (f b a) ∧ Q (n + 1) (f b a), ct := fun s3 => s3 = S (f b a) ∧ Q (n + 1) (f b a), bk := P.nx })
    (hd : Q lst.length (lst.foldl f b0) → P.nx (S (lst.foldl f b0))) (h1 : s.cl = (S b0).cl := by rfl) (h2 : Les s.sl (S b0).sl := by (repeat (first | exact Les.nil | apply Les.eq | apply Les.u)))
    (hi : (S b0).sl[i]? = some (.c j) := by rfl) (hN : X.N[i]? = some x := by rfl) (hv : Vis X.env.scope x := by first | exact Or.inl rfl | exact Or.inr (Or.inl rfl) | exact Or.inr (Or.inr rfl)) (hd1 : (x == ("__debug__" : Str)) = false := by decide) (hd2 : (x == ("__classdict__" : Str)) = false := by decide)
    (hf : ∀ z, foldedSetIterable (.Name x p) X.env z = pure z := by intro _; rfl) : JS X W (.For tg (.Name x p) body [] pos) s P := by
  refine js_le ⟨h1, h2⟩ (js_forC (ds := lst.map enc) i j (fun n s' => s' = S ((lst.take n).foldl f b0) ∧ Q n ((lst.take n).foldl f b0)) C ⟨rfl, q0⟩ (fun n s' h => by rw [h.1]; exact keep _) (fun n d s' hd' h => ?_) (fun s' h => ?_) hi hN hv hd1 hd2 hf)
  · obtain ⟨rfl, hq⟩ := h
    rw [List.getElem?_map] at hd'
    cases e : lst[n]? with
    | none => rw [e] at hd'; cases hd'
    | some a =>
      rw [e] at hd'
      have hd' : enc a = d := Option.some.inj hd'
      subst hd'
      have g := hs n a _ e rfl hq
      have e2 : (lst.take (n + 1)).foldl f b0 = f ((lst.take n).foldl f b0) a := by
        rw [List.take_add_one, e, List.foldl_append]
        rfl
      rw [e2]
      exact g
  · obtain ⟨rfl, hq⟩ := h
    rw [List.length_map, List.take_length] at hq ⊢
    exact hd hq
end
end DL
set_option Elab.async false
set_option linter.all false
set_option maxRecDepth 100000
set_option maxHeartbeats 4000000
set_option autoImplicit true
/-! DLn: instances: attributes, methods, making -/
namespace DL
open PySem PySem.Spec PyProof.Rows L2
/-! ### attributes by name -/
def putS (f : Str) (y : Sl) : List (Str × Sl) → List (Str × Sl)
  | [] => [(f, y)]
  | (g, w) :: r => if g = f then (g, y) :: r else (g, w) :: putS f y r
section
variable {K : PySem.W.Frag} {B : Hp} {as : List Addr}
/-- attributes as they are told -/
def FsOk (K : PySem.W.Frag) (B : Hp) (as : List Addr) (gs : List (Str × V)) (fs : List (Str × Sl)) : Prop := gs.map (·.1) = fs.map (·.1) ∧ ∀ (i : Nat) (x : Sl), (fs.map (·.2))[i]? = some x → SlOk K B as (gs.map (·.2))[i]? x
theorem FsOk.tail {g : Str × V} {gs : List (Str × V)} {f : Str × Sl} {fs : List (Str × Sl)} (h : FsOk K B as (g :: gs) (f :: fs)) : g.1 = f.1 ∧ SlOk K B as (some g.2) f.2 ∧ FsOk K B as gs fs := by
  obtain ⟨h1, h2⟩ := h
  rw [List.map_cons, List.map_cons] at h1
  injection h1 with e1 e2
  exact ⟨e1, h2 0 f.2 rfl, e2, fun i x hx => h2 (i + 1) x hx⟩
theorem FsOk.cons {g : Str × V} {gs : List (Str × V)} {f : Str × Sl} {fs : List (Str × Sl)} (e : g.1 = f.1) (h1 : SlOk K B as (some g.2) f.2) (h : FsOk K B as gs fs) : FsOk K B as (g :: gs) (f :: fs) := by
  refine ⟨by rw [List.map_cons, List.map_cons, e, h.1], fun i x hx => ?_⟩
  cases i with
  | zero =>
    have hx : some f.2 = some x := hx
    cases hx
    exact h1
  | succ i => exact h.2 i x hx
theorem FsOk.get {f : Str} {x : Sl} : ∀ {fs : List (Str × Sl)} {gs : List (Str × V)}, FsOk K B as gs fs → fs.lookup f = some x → ∃ v, gs.lookup f = some v ∧ SlOk K B as (some v) x
  | [], gs, _, e => by cases e
  | _ :: _, [], h, _ => by have := h.1; simp at this
  | (k, y) :: fs, (k2, v) :: gs, h, e => by
    obtain ⟨e1, h1, h2⟩ := h.tail
    have e1 : k2 = k := e1
    subst e1
    by_cases q : f = k2
    · have hb : (f == k2) = true := beq_iff_eq.mpr q
      simp only [List.lookup, hb] at e ⊢
      cases e
      exact ⟨v, rfl, h1⟩
    · have hb : (f == k2) = false := beq_eq_false_iff_ne.mpr q
      simp only [List.lookup, hb] at e ⊢
      exact FsOk.get h2 e
theorem FsOk.no {f : Str} : ∀ {fs : List (Str × Sl)} {gs : List (Str × V)}, FsOk K B as gs fs → fs.lookup f = none → gs.lookup f = none
  | [], [], _, _ => rfl
  | [], _ :: _, h, _ => by have := h.1; simp at this
  | _ :: _, [], h, _ => rfl
  | (k, y) :: fs, (k2, v) :: gs, h, e => by
    obtain ⟨e1, h1, h2⟩ := h.tail
    have e1 : k2 = k := e1
    subst e1
    by_cases q : f = k2
    · have hb : (f == k2) = true := beq_iff_eq.mpr q
      simp only [List.lookup, hb] at e
      cases e
    · have hb : (f == k2) = false := beq_eq_false_iff_ne.mpr q
      simp only [List.lookup, hb] at e ⊢
      exact FsOk.no h2 e
theorem FsOk.put {f : Str} {v : V} {x : Sl} (r : SlOk K B as (some v) x) : ∀ {fs : List (Str × Sl)} {gs : List (Str × V)}, FsOk K B as gs fs → FsOk K B as (putF f v gs) (putS f x fs)
  | [], [], _ => FsOk.cons rfl r ⟨rfl, fun i x e => by simp at e⟩
  | [], _ :: _, h => by have := h.1; simp at this
  | _ :: _, [], h => by have := h.1; simp at this
  | (k, y) :: fs, (k2, w) :: gs, h => by
    obtain ⟨e1, h1, h2⟩ := h.tail
    have e1 : k2 = k := e1
    subst e1
    unfold putF putS
    by_cases q : k2 = f
    · rw [if_pos q, if_pos q]
      exact FsOk.cons rfl r h2
    · rw [if_neg q, if_neg q]
      exact FsOk.cons rfl h1 (FsOk.put r h2)
theorem FsOk.tell {f : Str} {x : Sl} : ∀ {fs : List (Str × Sl)} {gs : List (Str × V)}, FsOk K B as gs fs → (∀ v, gs.lookup f = some v → SlOk K B as (some v) x) → (fs.lookup f).isSome = true → FsOk K B as gs (putS f x fs)
  | [], gs, _, _, e => by cases e
  | _ :: _, [], h, _, _ => by have := h.1; simp at this
  | (k, y) :: fs, (k2, w) :: gs, h, r, e => by
    obtain ⟨e1, h1, h2⟩ := h.tail
    have e1 : k2 = k := e1
    subst e1
    unfold putS
    by_cases q : k2 = f
    · have hb : (f == k2) = true := beq_iff_eq.mpr q.symm
      rw [if_pos q]
      exact FsOk.cons rfl (r w (by simp only [List.lookup, hb])) h2
    · have hb : (f == k2) = false := beq_eq_false_iff_ne.mpr (Ne.symm q)
      rw [if_neg q]
      simp only [List.lookup, hb] at e r
      exact FsOk.cons rfl h1 (FsOk.tell h2 r e)
theorem FsOk.len {fs : List (Str × Sl)} {gs : List (Str × V)} (h : FsOk K B as gs fs) : gs.length = fs.length := by
  have := congrArg List.length h.1
  rwa [List.length_map, List.length_map] at this
theorem ins_of {H : Hp} {σ : L2.St} {s : A} {i j : Nat} {C : Addr} {fs : List (Str × Sl)} (ok : Ok K as B H σ s) (hi : s.sl[i]? = some (.c j)) (hc : s.cl[j]? = some (.ins C fs)) : ∃ a dx gs, σ[i]? = some (some (.ref a)) ∧ as[j]? = some a ∧ H a = some (.ins C dx gs) ∧ FsOk K B as gs fs := by
  obtain ⟨a, v1, ha⟩ := cell_of ok hi
  obtain ⟨dx, gs, h1, h2, h3⟩ := ok.cs.2 j a _ ha hc
  exact ⟨a, dx, gs, v1, ha, h1, h2, h3⟩
end
section
variable {X : Cx} {W : WX} {k : Nat} {e a b c o : Expr} {es : List Expr} {sts : List Stmt} {s s' s1 s2 s3 : A} {P : Po} {d da db : D} {r : Res} {ds : List D} {xs ys : List D} {sls : List Sl} {pos p2 p apos pos' py : Pos} {x y f : Str} {β : Bool} {l : List Sl} {cl : List Cl} {C : Addr} {fs : List (Str × Sl)}
/-- o.f, a value -/
theorem je_fld (i : Nat) {j : Nat} (c : Cls X.K C) (n : NoAttr X.K C f) (hi : s.sl[i]? = some (.c j) := by rfl) (hc : s.cl[j]? = some (.ins C fs) := by rfl) (hf : fs.lookup f = some (.d d) := by rfl) (hN : X.N[i]? = some x := by rfl) (hv : Vis X.env.scope x := by first | exact Or.inl rfl | exact Or.inr (Or.inl rfl) | exact Or.inr (Or.inr rfl)) (hd1 : (x == ("__debug__" : Str)) = false := by decide) (hd2 : (x == ("__classdict__" : Str)) = false := by decide)
    (hb : attributeBase (.Name x p2) f X.env (eval (.Name x p2) X.env) = eval (.Name x p2) X.env := by rfl) : JE X W (.Attribute (.Name x p2) f pos) s (.ok d) s :=
  je_of (pe_fld (pe_var hN hv hd1 hd2) hb) fun as B H σ ok Q q => by
    obtain ⟨a, dx, gs, v1, _, hH, hg⟩ := ins_of ok hi hc
    obtain ⟨v, hl, w, ew, rw_⟩ := hg.get hf
    cases ew
    exact ⟨.ref a, v1, a, C, dx, gs, v, rfl, hH, c, n, hl, q v B H (Ext.refl ..) ok rw_⟩
/-- len(o.f), o.f a list that is a cell -/
theorem je_lenF (i : Nat) {j jl : Nat} (hm : X.mg "len" = none) (c : Cls X.K C) (n : NoAttr X.K C f) (hi : s.sl[i]? = some (.c j) := by rfl) (hc : s.cl[j]? = some (.ins C fs) := by rfl) (hf : fs.lookup f = some (.c jl) := by rfl) (hl : s.cl[jl]? = some (.lst xs) := by rfl) (hN : X.N[i]? = some x := by rfl) (hv : Vis X.env.scope x := by first | exact Or.inl rfl | exact Or.inr (Or.inl rfl) | exact Or.inr (Or.inr rfl)) (hd1 : (x == ("__debug__" : Str)) = false := by decide) (hd2 : (x == ("__classdict__" : Str)) = false := by decide)
    (hb : attributeBase (.Name x p2) f X.env (eval (.Name x p2) X.env) = eval (.Name x p2) X.env := by rfl) (hg : Gl X "len" := by rfl)
    (he : starEach (.Attribute (.Name x p2) f p :: []) X.env = (false, eval (.Attribute (.Name x p2) f p) X.env) :: starEach [] X.env := by rfl) (hpl : (backTo pos (starEach [] X.env)).any (·.1) = false := by rfl) : JE X W (.Call (.Name "len" py) [.Attribute (.Name x p2) f p] [] pos) s (.ok (.int xs.length)) s :=
  je_of (pe_callB call_len_seq hg hm PySem.boot_len (pa_cons (pe_fld (pe_var hN hv hd1 hd2) hb) pa_nil he) (by decide) (by decide) he hpl) fun as B H σ ok Q q => by
    obtain ⟨a, dx, gs, v1, _, hH, hgs⟩ := ins_of ok hi hc
    obtain ⟨v, hlk, al, hal, ev⟩ := hgs.get hf
    cases ev
    obtain ⟨vs, h1, h2⟩ := ok.cs.2 jl al _ hal hl
    exact ⟨.ref a, v1, a, C, dx, gs, _, rfl, hH, c, n, hlk, _, _, rfl, .inl (.inl (.inl h1)), by rw [h2.length]; exact q _ B H (Ext.refl ..) ok (.int _)⟩
/-- o.f = e, a value -/
theorem js_fld (i : Nat) {j : Nat} (c : Cls X.K C) (n : NoAttr X.K C f) (he : JE X WN e s (.ok d) s1) (hP : P.nx ⟨l, cl⟩) (hsl : s1.sl = l := by (first | rfl | exact rfl)) (hi : s1.sl[i]? = some (.c j) := by rfl) (hc : s1.cl[j]? = some (.ins C fs) := by rfl) (hcl : s1.cl.set j (.ins C (putS f (.d d) fs)) = cl := by rfl) (hn : fs.length < 1000 := by exact of_decide_eq_true rfl) (hN : X.N[i]? = some x := by rfl) (hv : Vis X.env.scope x := by first | exact Or.inl rfl | exact Or.inr (Or.inl rfl) | exact Or.inr (Or.inr rfl)) (hd1 : (x == ("__debug__" : Str)) = false := by decide) (hd2 : (x == ("__classdict__" : Str)) = false := by decide)
    (hs : swapsWith e (some (.Attribute (.Name x p2) f pos')) pos.line X.env = pure false := by rfl) : JS X W (.Assign [.Attribute (.Name x p2) f pos'] e pos) s P :=
  js_of (ps_fld (pe_var hN hv hd1 hd2) pe_w hs) fun as B H σ ok Dn fit => Ok.one he ok fun v B1 H1 x1 o1 r1 => by
    obtain ⟨a, dx, gs, v1, ha, hH, hg⟩ := ins_of o1 hi hc
    obtain ⟨o2, x2⟩ := o1.wr (o := .ins C dx (putF f v gs)) (c' := .ins C (putS f (.d d) fs)) ha hc True.intro ⟨dx, _, upd_same, (hg.put (x := .d d) ⟨v, rfl, r1⟩).1, (hg.put (x := .d d) ⟨v, rfl, r1⟩).2⟩
    rw [hcl] at o2
    rw [← hsl] at hP
    exact ⟨.ref a, v1, a, C, dx, gs, rfl, hH, c, n, by rw [hg.len]; exact hn, fit.nx as _ _ σ _ (x1.trans x2) o2 hP⟩
/-- o.f.append(e), o.f a list that is a cell -/
theorem js_appF (i : Nat) {j jl : Nat} (c : Cls X.K C) (n : NoAttr X.K C f) (he : JE X WN e s (.ok d) s1) (hlen : xs.length < sizeLine) (hP : P.nx ⟨l, cl⟩) (hsl : s1.sl = l := by rfl) (hi : s.sl[i]? = some (.c j) := by rfl) (hc : s.cl[j]? = some (.ins C fs) := by rfl) (hf : fs.lookup f = some (.c jl) := by rfl) (hl0 : ∃ zs, s.cl[jl]? = some (.lst zs) := by exact ⟨_, rfl⟩) (hl : s1.cl[jl]? = some (.lst xs) := by rfl) (hcl : s1.cl.set jl (.lst (xs ++ [d])) = cl := by rfl)
    (hN : X.N[i]? = some x := by rfl) (hv : Vis X.env.scope x := by first | exact Or.inl rfl | exact Or.inr (Or.inl rfl) | exact Or.inr (Or.inr rfl)) (hd1 : (x == ("__debug__" : Str)) = false := by decide) (hd2 : (x == ("__classdict__" : Str)) = false := by decide)
    (hb : attributeBase (.Name x p2) f X.env (eval (.Name x p2) X.env) = eval (.Name x p2) X.env := by rfl)
    (hbase : attributeBase (.Attribute (.Name x p2) f py) "append" X.env (eval (.Attribute (.Name x p2) f py) X.env) = eval (.Attribute (.Name x p2) f py) X.env := by rfl)
    (hfew : ((backTo p (starEach (e :: []) X.env)).all (fun x => !x.1) && (backToKw p (keywordEach [] X.env)).all (fun x => x.1.isSome)
      && decide ((e :: []).length + ([] : List Keyword).length + (if ([] : List Keyword).isEmpty then 0 else 1) < 30)) = true := by rfl)
    (hline : (apos.endLine == p.line) = true := by rfl) (hs : starEach (e :: []) X.env = (false, eval e X.env) :: starEach [] X.env := by rfl) (hplain : (backTo p (starEach [] X.env)).any (·.1) = false := by rfl)
    (hsw : swapsWith (.Call (.Attribute (.Attribute (.Name x p2) f py) "append" apos) [e] [] p) none pos.line X.env = pure false := by rfl) :
    JS X W (.Expr (.Call (.Attribute (.Attribute (.Name x p2) f py) "append" apos) [e] [] p) pos) s P :=
  js_of (ps_expr (pe_bm PySem.F.plainAttrs_list PySem.F.slot_list_append PySem.F.type_list_append mt_append (pe_fld (pe_var hN hv hd1 hd2) hb) (pa_cons pe_w pa_nil hs) hbase hfew hline hs hplain) hsw) fun as B H σ ok Dn fit => by
    obtain ⟨a, dx, gs, v1, _, hH, hgs⟩ := ins_of ok hi hc
    obtain ⟨v, hlk, al, hal, ev⟩ := hgs.get hf
    cases ev
    obtain ⟨zs, hz⟩ := hl0
    obtain ⟨us, hu, _⟩ := ok.cs.2 jl al _ hal hz
    refine ⟨.ref a, v1, a, C, dx, gs, _, rfl, hH, c, n, hlk, .inl ⟨rfl, _, .inl (.inl hu)⟩, Ok.one he ok fun v B1 H1 x1 o1 r1 => ?_⟩
    obtain ⟨vs, hH, hv⟩ := o1.cs.2 jl al _ hal hl
    obtain ⟨o2, x2⟩ := o1.wr (o := .lst (vs ++ [v])) (c' := .lst (xs ++ [d])) hal hl True.intro ⟨_, upd_same, hv.append (.cons r1 .nil)⟩
    rw [hcl] at o2
    rw [← hsl] at hP
    exact ⟨al, vs, v, rfl, rfl, hH, by rw [hv.length]; exact hlen, fit.nx as _ _ σ _ (x1.trans x2) o2 hP⟩
/-- the list o.f is a value from now on -/
theorem jb_freezeF (i j jl : Nat) (f : Str) (h : JB X W sts ⟨s.sl, cl⟩ P) (hi : s.sl[i]? = some (.c j) := by rfl) (hc : s.cl[j]? = some (.ins C fs) := by rfl) (hf : fs.lookup f = some (.c jl) := by rfl) (hne : j ≠ jl := by decide) (hl : s.cl[jl]? = some (.lst xs) := by rfl) (hcl : (s.cl.set jl .dead).set j (.ins C (putS f (.d (.lst xs)) fs)) = cl := by rfl) : JB X W sts s P := fun as B H σ ok Dn fit => by
  obtain ⟨a, dx, gs, v1, ha, hH, hgs⟩ := ins_of ok hi hc
  obtain ⟨v, hlk, al, hal, ev⟩ := hgs.get hf
  cases ev
  obtain ⟨vs, h1, hv⟩ := ok.cs.2 jl al _ hal hl
  obtain ⟨o1, x1⟩ := ok.freeze hal hl True.intro h1
  have hg1 : FsOk X.K (upd B al (.lst vs)) as gs fs := ⟨hgs.1, fun i x hx => (hgs.2 i x hx).mono x1.b ⟨[], by simp⟩⟩
  have hg2 : FsOk X.K (upd B al (.lst vs)) as gs (putS f (.d (.lst xs)) fs) := hg1.tell (fun v e => by
    rw [hlk] at e
    cases e
    exact ⟨_, rfl, .lst upd_same (hv.mono x1.b)⟩) (by rw [hf]; rfl)
  have hlen := o1.cs.1
  have hj : j < s.cl.length := (List.getElem?_eq_some_iff.mp hc).1
  refine h as _ H σ ⟨o1.sm, o1.nd, o1.ht, fun j' a' c' e1 e2 e3 => ?_, ⟨?_, fun j' a' c' e1 e2 => ?_⟩, o1.ln, o1.sl⟩ Dn (fit.on x1)
  · dsimp only at e2
    rw [← hcl] at e2
    by_cases e : j' = j
    · subst e
      refine o1.nb j' a' (.ins C fs) e1 ?_ True.intro
      dsimp only
      rw [List.getElem?_set_ne (Ne.symm hne)]
      exact hc
    · rw [List.getElem?_set_ne (Ne.symm e)] at e2
      exact o1.nb j' a' c' e1 e2 e3
  · dsimp only at hlen ⊢
    rw [← hcl, List.length_set]
    exact hlen
  · dsimp only at e2
    rw [← hcl] at e2
    by_cases e : j' = j
    · subst e
      rw [List.getElem?_set_self (by rw [List.length_set]; exact hj)] at e2
      cases e2
      rw [ha] at e1
      cases e1
      exact ⟨dx, gs, hH, hg2.1, hg2.2⟩
    · rw [List.getElem?_set_ne (Ne.symm e)] at e2
      exact o1.cs.2 j' a' c' e1 e2
/-- range(lo, hi, c) -/
theorem ji_range3 {lo hi : Int} {cc n : Nat} {tg : Expr} (hm : X.mg "range" = none) (h : JE X WN a s (.ok (.int lo)) s1) (h' : JE X WN b s1 (.ok (.int hi)) s2) (h3 : JE X WN c s2 (.ok (.int (cc : Nat))) s3) (hR : RgC lo hi (cc : Nat) n) (hg : Gl X "range" := by rfl)
    (e1 : starEach (c :: []) X.env = (false, eval c X.env) :: starEach [] X.env := by rfl) (e2 : starEach (b :: [c]) X.env = (false, eval b X.env) :: starEach [c] X.env := by rfl) (e3 : starEach (a :: [b, c]) X.env = (false, eval a X.env) :: starEach [b, c] X.env := by rfl)
    (hpl : (backTo pos (starEach [b, c] X.env)).any (·.1) = false := by rfl) : JI X tg (.Call (.Name "range" p) [a, b, c] [] pos) s ((List.range n).map fun i : Nat => D.int (lo + (i : Int) * (cc : Int))) s3 :=
  fun as B H σ ok R q => wI_of (pi_range3 hg hm (pa_cons pe_w (pa_cons pe_w (pa_cons pe_w pa_nil e1) e2) e3) e3 hpl) (h as B H σ ok _ fun x B1 H1 x1 o1 r1 => h' as B1 H1 σ o1 _ fun y B2 H2 x2 o2 r2 => h3 as B2 H2 σ o2 _ fun z B3 H3 x3 o3 r3 => by
    cases r1; cases r2; cases r3
    refine ⟨lo, hi, _, n, rfl, hR, q _ B3 H3 ((x1.trans x2).trans x3) o3 ?_⟩
    have len : ((List.range n).map fun i : Nat => D.int (lo + (i : Int) * (cc : Int))).length = n := by rw [List.length_map, List.length_range]
    refine ⟨fun i H hi _ => by rw [len] at hi; exact hi, fun H _ => by rw [len]; exact Nat.le_refl _, fun i H v H' hi _ y => ?_⟩
    rw [len] at hi
    obtain ⟨e1, e2⟩ := y
    subst e2
    exact ⟨e1, _, by rw [List.getElem?_map, List.getElem?_range hi]; rfl, .int _⟩)
/-! ### methods -/
structure MtC (P : Program) (w : World) (K : PySem.W.Frag) (mg : Str → Option Value) (base : Heap) (C : Addr) (x : Str) (n m k : Nat) (pre : List Sl → List Cl → Res → List Cl → Prop) : Prop where
  ex : ∃ (f : Addr) (fd : FuncData) (ps : List Str), ps.length = n ∧ FnOk P w K mg base (L2.CX P w) k f fd ps (spC K m pre) ∧ Meth K C x f ∧ Binds K fd ps []
theorem je_meth (i : Nat) {V : WX} {pl : Sem Bool} {j0 n m j : Nat} {pre : List Sl → List Cl → Res → List Cl → Prop} {cl' : List Cl} (K : Cok X V k) (c : Cls X.K C) (F : MtC X.prog X.w X.K X.mg X.base C y n m j pre) (hk : j ≤ k) (ha : JA X (e :: es) s sls s1) (hp : pre (.c j0 :: sls) (s1.cl.take m) (.ok d) cl') (hi : s.sl[i]? = some (.c j0) := by rfl) (hc : s.cl[j0]? = some (.ins C fs) := by rfl) (hf : fs.lookup y = none := by rfl) (hj0 : j0 < m := by decide) (hm : m ≤ s1.cl.length := by exact of_decide_eq_true rfl) (hb1 : (s1.cl.take m).all (·.below m) = true := by rfl) (hb2 : cl'.all (·.below m) = true := by rfl) (hb3 : sls.all (·.below m) = true := by rfl)
    (hcl : cl' ++ s1.cl.drop m = cl := by exact rfl) (hN : X.N[i]? = some x := by rfl) (hv : Vis X.env.scope x := by first | exact Or.inl rfl | exact Or.inr (Or.inl rfl) | exact Or.inr (Or.inr rfl)) (hd1 : (x == ("__debug__" : Str)) = false := by decide) (hd2 : (x == ("__classdict__" : Str)) = false := by decide)
    (hst : starEach (e :: es) X.env = (false, eval e X.env) :: starEach es X.env := by rfl) (hpl : (backTo pos (starEach es X.env)).any (·.1) = false := by rfl)
    (ht : eval (.Call (.Attribute (.Name x p2) y apos) (e :: es) [] pos) X.env = (do
      let ov ← eval (.Name x p2) X.env
      standAt apos.atName
      let (f, first) ← holding [ov] (getMethod ov y pl)
      callWith pos f first (backTo pos (starEach (e :: es) X.env)) (backToKw pos (keywordEach [] X.env))) := by rfl) :
    JE X W (.Call (.Attribute (.Name x p2) y apos) (e :: es) [] pos) s (.ok d) ⟨s1.sl, cl⟩ := fun as B H σ ok Q q => by
  obtain ⟨g, fd, ps, hn, hfn, hmt, hb⟩ := F.ex
  refine wE_of (pe_meth (E := fun _ _ _ => False) (pe_var hN hv hd1 hd2) c hmt hfn (K.hr.mono hk) hb .nil (passes_call K.tk fun _ _ _ _ z => z.elim) pa_w hst hpl ht) ?_
  obtain ⟨a, dx, gs, v1, haj, hH, hgs⟩ := ins_of ok hi hc
  refine ⟨.ref a, v1, a, dx, gs, rfl, hH, hgs.no hf, ha as B H σ ok _ fun vs B1 H1 x1 o1 r1 => ?_⟩
  have hl := o1.cs.1
  have same : ∀ j, j < m → (as.take m)[j]? = as[j]? := fun j hj => by rw [List.getElem?_take, if_pos hj]
  have o0 : Ok X.K (as.take m) B1 H1 ((.ref a :: vs).map some) ⟨.c j0 :: sls, s1.cl.take m⟩ := by
    refine ⟨o1.sm, o1.nd.sublist (List.take_sublist _ _), fun a ha => o1.ht a (List.mem_of_mem_take ha), fun j a d h1 h2 h3 => ?_, ⟨by simp [hl], fun j a d h1 h2 => ?_⟩, by rw [List.length_map, List.length_cons, List.length_cons, r1.length], fun i z hz => ?_⟩
    · dsimp only at h2
      rw [List.getElem?_take] at h1 h2
      split at h1
      · rename_i hj
        rw [if_pos hj] at h2
        exact o1.nb j a d h1 h2 h3
      · cases h1
    · dsimp only at h2
      have hbd : d.below m = true := List.all_eq_true.mp hb1 d (List.mem_of_getElem? h2)
      rw [List.getElem?_take] at h1 h2
      split at h1
      · rename_i hj
        rw [if_pos hj] at h2
        exact (o1.cs.2 j a d h1 h2).cut hbd same
      · cases h1
    · cases i with
      | zero =>
        have hz : some (Sl.c j0) = some z := hz
        cases hz
        exact ⟨a, by rw [same j0 hj0]; exact haj, rfl⟩
      | succ i =>
        have hz : sls[i]? = some z := hz
        exact (r1.get i z hz).cut (List.all_eq_true.mp hb3 z (List.mem_of_getElem? hz)) same
  refine ⟨as.take m, B1, .c j0 :: sls, s1.cl.take m, .ok d, cl', by rw [List.append_nil]; exact o0, by rw [List.length_take]; omega, hp, ?_⟩
  intro v as' B' H' c y o hc rv
  obtain ⟨x2, o2⟩ := ok_back o1 hm y o (by rw [hc]; exact hb2)
  rw [hc, hcl] at o2
  exact q v B' H' (x1.trans x2) o2 rv
/-! ### making -/
theorem Ok.adoptC {K : PySem.W.Frag} {as : List Addr} {B H : Hp} {σ : L2.St} {p : Addr} {c : Cl} (h : Ok K as B H σ s) (hp : p ∉ as) (hB : B p = Option.none) (hH : H p ≠ Option.none) (hc : ClOk K B (as ++ [p]) H p c) : Ok K (as ++ [p]) B H σ ⟨s.sl, s.cl ++ [c]⟩ := by
  have hl := h.cs.1
  have split : ∀ {j : Nat} {a : Addr} {d : Cl}, (as ++ [p])[j]? = some a → (s.cl ++ [c])[j]? = some d → (as[j]? = some a ∧ s.cl[j]? = some d) ∨ (a = p ∧ d = c) := fun {j a d} h1 h2 => by
    by_cases hj : j < as.length
    · rw [List.getElem?_append_left hj] at h1
      rw [List.getElem?_append_left (by omega)] at h2
      exact .inl ⟨h1, h2⟩
    · rw [List.getElem?_append_right (by omega)] at h1
      rw [List.getElem?_append_right (by omega)] at h2
      rw [hl] at h1
      cases e : j - s.cl.length with
      | zero => rw [e] at h1 h2; simp at h1 h2; exact .inr ⟨h1.symm, h2.symm⟩
      | succ n => rw [e] at h1; simp at h1
  refine ⟨h.sm, ?_, fun a ha => ?_, fun j a d h1 h2 h3 => ?_, ⟨by simp [hl], fun j a d h1 h2 => ?_⟩, h.ln, fun i x hx => (h.sl i x hx).mono (fun _ _ e => e) ⟨[p], rfl⟩⟩
  · rw [List.nodup_append]
    refine ⟨h.nd, by simp, fun a ha b hb => ?_⟩
    rw [List.mem_singleton.mp hb]
    exact fun z => hp (by rw [← z]; exact ha)
  · rcases List.mem_append.mp ha with ha | ha
    · exact h.ht a ha
    · rw [List.mem_singleton.mp ha]; exact hH
  · rcases split h1 h2 with ⟨h1, h2⟩ | ⟨rfl, rfl⟩
    · exact h.nb j a d h1 h2 h3
    · exact hB
  · rcases split h1 h2 with ⟨h1, h2⟩ | ⟨rfl, rfl⟩
    · exact (h.cs.2 j a d h1 h2).mono (fun _ _ e => e) ⟨[p], rfl⟩ fun _ u e => e
    · exact hc
theorem Ok.grow {K : PySem.W.Frag} {as : List Addr} {B H H' : Hp} {σ : L2.St} (h : Ok K as B H σ s) (g : ∀ b o, H b = some o → H' b = some o) : Ok K as B H' σ s :=
  ⟨fun b o e => g b o (h.sm b o e), h.nd, fun a ha => by
    cases q : H a with
    | none => exact absurd q (h.ht a ha)
    | some o => rw [g a o q]; exact fun z => (nomatch z), h.nb, ⟨h.cs.1, fun j a c h1 h2 => (h.cs.2 j a c h1 h2).mono (fun _ _ e => e) ⟨[], by simp⟩ fun _ o e => g a o e⟩, h.ln, h.sl⟩
/-- __init__(self, v): self.f = v; self.g = [] -/
def spInit (C : Addr) (f g : Str) : Sp := fun vs H Q _ => ∃ (x dx : Addr) (v : V), vs = [.ref x, v] ∧ H x = some (.ins C dx []) ∧
  ∀ (q : Addr) (H' : Hp), q ≠ x → H q = Option.none → H' q = some (.lst []) → H' x = some (.ins C dx [(f, v), (g, .ref q)]) → (∀ b o, H b = some o → b ≠ x → H' b = some o) → Q .non H'
structure MkM (P : Program) (w : World) (K : PySem.W.Frag) (mg : Str → Option Value) (base : Heap) (x : Str) (C : Addr) (f g : Str) (k : Nat) : Prop where
  mak : ∃ (h : Addr) (fd : FuncData) (ps : List Str), Mk K C h ∧ FnOk P w K mg base (L2.CX P w) k h fd ps (spInit C f g) ∧ Binds K fd ps []
  cl : Cls K C
  nf : NoAttr K C f
  ng : NoAttr K C g
  mg : mg x = some (.ref C)
  ne : f ≠ g
/-- x = C(e): the list, then the instance, are new cells -/
theorem js_make (i : Nat) {j : Nat} {f g : Str} (K : Cok X W k) (M : MkM X.prog X.w X.K X.mg X.base y C f g j) (hk : j + 1 ≤ k) (he : JE X WN e s (.ok d) s1) (hP : P.nx ⟨l, cl⟩) (hl : s1.sl.set i (.c (s1.cl.length + 1)) = l := by rfl) (hcl : s1.cl ++ [.lst [], .ins C [(f, .d d), (g, .c s1.cl.length)]] = cl := by rfl) (hN : X.N[i]? = some x := by rfl) (hx : Loc X.env.scope x := by first | exact .inl rfl | exact .inr rfl) (hn : i < s1.sl.length := by exact of_decide_eq_true rfl) (hs : swapsWith (.Call (.Name y p) [e] [] p2) (some (.Name x pos')) pos.line X.env = pure false := by rfl) (hf : X.fn x = true ∨ X.env.scope.names.lookup x = some .local := by first | exact .inl rfl | exact .inr rfl)
    (hg : Gl X y := by rfl) (hdb : (y == ("__debug__" : Str)) = false := by decide) (hse : starEach (e :: []) X.env = (false, eval e X.env) :: starEach [] X.env := by rfl) (hpl : (backTo p2 (starEach [] X.env)).any (·.1) = false := by rfl) :
    JS X W (.Assign [.Name x pos'] (.Call (.Name y p) [e] [] p2) pos) s P := by
  obtain ⟨h0, fd, ps, mk, hfn, hb⟩ := M.mak
  exact js_of (ps_set K.nd hN hx (pe_make (E := fun _ _ _ => False) mk hfn (K.hr.mono hk) hg M.mg hb .nil (passes_call K.tk fun _ _ _ _ z => z.elim) (pa_cons pe_w pa_nil hse) hdb hse hpl) hs hf) fun as B H σ ok Dn fit => Ok.one he ok fun v B1 H1 x1 o1 r1 => by
    intro z dz hz hdz hne
    refine ⟨z, dz, v, rfl, upd_same, fun q H' hq hqn h1 h2 h3 => ⟨rfl, ?_⟩⟩
    have hqd : q ≠ dz := fun e => by
      rw [upd_ne hq, e, upd_same] at hqn
      cases hqn
    rw [upd_ne hq, upd_ne hqd] at hqn
    have grow : ∀ b o, H1 b = some o → H' b = some o := fun b o e => by
      have n1 : b ≠ z := ne_of_none e hz
      have n2 : b ≠ dz := ne_of_none e hdz
      exact h3 b o (by rw [upd_ne n1, upd_ne n2]; exact e) n1
    have o2 := o1.grow grow
    have hl1 := o1.cs.1
    have qa : q ∉ as := fun e => o1.ht q e hqn
    have za : z ∉ as := fun e => o1.ht z e hz
    have o3 := o2.adoptC (p := q) (c := .lst []) qa (o1.sm.free hqn) (ne_none h1) ⟨[], h1, .nil⟩
    have atq : ((as ++ [q]) ++ [z])[s1.cl.length]? = some q := by
      rw [List.append_assoc, List.getElem?_append_right (by omega), hl1, Nat.sub_self]
      rfl
    have o4 := o3.adoptC (p := z) (c := .ins C [(f, .d d), (g, .c s1.cl.length)]) (fun e => by
      rcases List.mem_append.mp e with e | e
      · exact za e
      · exact hq (List.mem_singleton.mp e).symm) (o1.sm.free hz) (ne_none h2) ⟨dz, _, h2, rfl, fun i y hy => by
        match i, hy with
        | 0, hy => cases hy; exact ⟨v, rfl, r1⟩
        | 1, hy => cases hy; exact ⟨q, atq, rfl⟩⟩
    have o5 := o4.store (i := i) (o := some (.ref z)) (x := .c (s1.cl.length + 1)) hn ⟨z, by
      rw [List.getElem?_append_right (by rw [List.length_append]; show as.length + 1 ≤ _; omega), List.length_append]
      have : s1.cl.length + 1 - (as.length + [q].length) = 0 := by show s1.cl.length + 1 - (as.length + 1) = 0; omega
      rw [this]
      rfl, rfl⟩
    dsimp only at o5
    have o6 : Ok X.K ((as ++ [q]) ++ [z]) B1 H' (σ.set i (some (.ref z))) ⟨l, cl⟩ := by
      have e : s1.cl ++ [Cl.lst []] ++ [Cl.ins C [(f, Sl.d d), (g, Sl.c s1.cl.length)]] = cl := by rw [← hcl, List.append_assoc]; rfl
      rw [hl, e] at o5
      exact o5
    refine fit.nx _ B1 H' _ _ (x1.trans ⟨fun _ _ e => e, fun a o _ e => grow a o e, fun a e _ _ => e, ⟨[q, z], by rw [List.append_assoc]; rfl, fun a ha => ?_⟩, fun a ha => ?_⟩) o6 hP
    · rcases List.mem_cons.mp ha with e | ha
      · rw [e]; exact hqn
      · rw [List.mem_singleton.mp ha]; exact hz
    · cases e : H1 a with
      | none => exact absurd e ha
      | some o => rw [grow a o e]; exact fun z => nomatch z
end
section
variable {Pg : Program} {w : World} {K : PySem.W.Frag} {mg : Str → Option Value} {base : Heap} {x : Str} {st : Stmt} {k : Nat}
theorem mt_okC {C : Addr} {qual : Str} {f : Addr} {fd : FuncData} {N ps : List Str} {m : Nat} {pre : List Sl → List Cl → Res → List Cl → Prop} (F : Fun K x qual st f fd) (S : FnScope N ps (defScope st)) (hb : Binds K fd ps []) (hm : Meth K C x f) (hlen : ∀ sls cl r cl', pre sls cl r cl' → sls.length = ps.length) (hN : ps.length ≤ N.length := by (show _ ≤ _; decide))
    (body : ∀ (cdv : Value) (A : Around) (outer : List Env) (s : Shared) (H : Hp) (E : XK), Cok (cxOf (L2.CX Pg w) Pg w K mg base N qual (defScope st) f cdv A outer s H E) (fun cls d _ H => E cls d H) k → ∀ sls cl r cl', cl.length = m → pre sls cl r cl' →
      JB (cxOf (L2.CX Pg w) Pg w K mg base N qual (defScope st) f cdv A outer s H E) (fun cls d _ H => E cls d H) (defBody st) ⟨slC N sls, cl⟩ (PoC m r cl')) : MtC Pg w K mg base C x ps.length m (k + 1) pre where
  ex := ⟨f, fd, ps, rfl, F.okX S (fun vs H Q E h => by
      obtain ⟨as, B, sls, cl, r, cl', o, _, hp, _⟩ := h
      have ln := o.ln
      simp at ln
      rw [ln]
      exact hlen _ _ _ _ hp) (fun cdv A outer s H vs Q E hr h => by
      obtain ⟨as, B, sls, cl, r, cl', o, hml, hp, q⟩ := h
      refine ⟨_, pss_w, ?_⟩
      have C : Cok (cxOf (L2.CX Pg w) Pg w K mg base N qual (defScope st) f cdv A outer s H E) (fun cls d _ H => E cls d H) k := ⟨hr, takes_of rfl rfl rfl rfl, rfl, passes_of rfl, S.nd⟩
      refine body cdv A outer s H E C sls cl r cl' hml hp as B H _ (ok_startC o (by rw [hlen _ _ _ _ hp]; exact hN)) _ ⟨?_, ?_, ?_, ?_, ?_⟩
      · intro as' B' H' σ' s' y o' z
        obtain ⟨z', zc⟩ := z
        subst z'
        exact q .non as' B' H' s'.cl y o'.none zc .non
      · intro as' B' H' σ' s' v d y o' rv z
        obtain ⟨z', zc⟩ := z
        subst z'
        exact q v as' B' H' s'.cl y o'.none zc rv
      · intro as' B' H' σ' s' y o' z; exact z.elim
      · intro as' B' H' σ' s' y o' z; exact z.elim
      · intro as' B' H' σ' s' c y o' z
        obtain ⟨z', zc⟩ := z
        subst z'
        exact q as' B' H' s'.cl y o'.none zc), hm, hb⟩
end
end DL
set_option Elab.async false
set_option linter.all false
set_option maxRecDepth 100000
set_option maxHeartbeats 4000000
set_option autoImplicit true
/-! DLo: how many a set holds; what is sorted -/
namespace DL
open PySem PySem.Spec PyProof.Rows L2
theorem nd_len {α : Type} [DecidableEq α] : ∀ {L M : List α}, L.Nodup → (∀ x ∈ L, x ∈ M) → L.length ≤ M.length
  | [], _, _, _ => Nat.zero_le _
  | a :: L, M, h, hs => by
    rw [List.nodup_cons] at h
    have hm := hs a List.mem_cons_self
    have := nd_len (L := L) (M := M.erase a) h.2 fun x hx => (List.mem_erase_of_ne (fun e => h.1 (by rw [← e]; exact hx))).mpr (hs x (List.mem_cons_of_mem _ hx))
    rw [List.length_erase_of_mem hm] at this
    have hp := List.length_pos_of_mem hm
    rw [List.length_cons]
    omega
/-- tuples of ints, as their places and what they hold -/
theorem reps_tups {K : PySem.W.Frag} {B : Hp} : ∀ {ls : List (List Int)} {vs : List V}, Reps K B vs (ls.map fun s => D.tup (s.map .int)) → ∃ ks : List (Addr × List Int), vs = ks.map (fun p => V.ref p.1) ∧ ks.map (·.2) = ls ∧ ∀ p ∈ ks, SqT K B p.1 (p.2.map V.int)
  | [], _, h => by cases h; exact ⟨[], rfl, rfl, fun _ z => nomatch z⟩
  | s :: ls, _, h => by
    cases h with
    | cons h1 h2 =>
      obtain ⟨ks, e1, e2, h3⟩ := reps_tups h2
      cases h1 with
      | @tup p us _ sq hr =>
        have e := hr.ints
        subst e
        refine ⟨(p, s) :: ks, by rw [e1]; rfl, by rw [← e2]; rfl, fun q hq => ?_⟩
        rcases List.mem_cons.mp hq with rfl | hq
        · exact sq
        · exact h3 q hq
def tLenSetT (K : PySem.W.Frag) (ta : TE) : TE := fun σ H Q => ta σ H fun x H1 => ∃ (l : Addr) (ks : List (Addr × List Int)), x = V.ref l ∧ SqL K H1 l (ks.map fun p => V.ref p.1) ∧ (∀ p ∈ ks, SqT K H1 p.1 (p.2.map V.int)) ∧ ks.length < 64 ∧ (ks.map (·.2)).Nodup ∧ Q (.int ks.length) H1
section
variable {X : Cx} {W : WX} {k : Nat} {e a b c : Expr} {es : List Expr} {s s' s1 s2 : A} {d da db : D} {xs ys : List D} {pos p2 p q : Pos}
theorem pe_lenSetT {ta : TE} (hc : X.calm = true) (hu : X.A.units + 64 < cLine) (hg : Gl X "len") (hm : X.mg "len" = none) (hg2 : Gl X "set") (hm2 : X.mg "set" = none) (ha : PE X a ta)
    (na : starEach [a] X.env = (false, eval a X.env) :: starEach [] X.env := by rfl) : PE X (.Call (.Name "len" p) [.Call (.Name "set" p2) [a] [] q] [] pos) (tLenSetT X.K ta) := by
  refine ⟨fun pins s σ H Q I h => ?_⟩
  refine Call_ (ld_blt I hg hm PySem.boot_len ?_)
  refine PyProof.Rows.callWith_builtin1 (PyProof.Rows.args_cons ?_ rfl) rfl rfl
  refine Call_ (ld_blt I hg2 hm2 PyProof.Rows.boot_set ?_)
  refine PyProof.Rows.callWith_type1 (PyProof.Rows.args_cons (thn (ha.run pins s σ H _ I h) fun v s1 ⟨x, H1, I1, r1, q1⟩ => PyProof.Rows.args_nil ?_) na) na rfl
  obtain ⟨l, ks, rfl, hq, hk, h1, hnd, q1⟩ := q1
  cases r1
  obtain ⟨its, r, pl, hz⟩ := I1.list hq
  refine call_set_tups (P := X.prog) (w := X.w) ks (I1.ok.hd hc) pl.isList (by simpa using refs_of_vals r) (fun p hp => I1.isT (hk p hp)) h1 (by omega) fun h' tk L es ep t R g hkeep => ?_
  refine PyProof.Rows.args_nil ?_
  obtain ⟨o, ho, hex, hd⟩ := R.ob
  have hlen : L.length = ks.length := by
    have a1 := nd_len R.nd fun x hx => by
      obtain ⟨p, hp, rfl⟩ := List.mem_map.mp hx
      have := g.sub p hp
      rw [List.take_length] at this
      exact List.mem_map.mpr ⟨p, this, rfl⟩
    have a2 := nd_len hnd fun x hx => by
      obtain ⟨p, hp, rfl⟩ := List.mem_map.mp hx
      exact g.all p (by rw [List.take_length]; exact hp)
    rw [List.length_map, List.length_map] at a1 a2
    omega
  have hsz := SetTR.size (s := { s1 with heap := h', toks := tk }) R
  have hfit := SetTR.fits (s := { s1 with heap := h', toks := tk }) R
  have I2 : Inv X pins σ H1 { s1 with heap := h', toks := tk } := I1.kept fun b o e => hkeep b o e
  refine PySem.call_len_set ho hex hd hfit (by omega) ⟨.int ks.length, H1, I2.tok _, ⟨_, by rw [hsz, hlen]⟩, q1⟩
/-- len(set(l)), l a list of tuples of ints, no two alike -/
theorem je_lenSetT {ls : List (List Int)} {V : WX} (C : Cok X V k) (hm : X.mg "len" = none) (hm2 : X.mg "set" = none) (ha : JE X W a s (.ok (.lst (ls.map fun s => D.tup (s.map .int)))) s1) (hl : ls.length < 64) (hnd : ls.Nodup) (hg : Gl X "len" := by rfl) (hg2 : Gl X "set" := by rfl)
    (na : starEach [a] X.env = (false, eval a X.env) :: starEach [] X.env := by rfl) : JE X W (.Call (.Name "len" p) [.Call (.Name "set" p2) [a] [] q] [] pos) s (.ok (.int ls.length)) s1 :=
  je_of (pe_lenSetT C.calm C.hr.units hg hm hg2 hm2 pe_w na) fun as B H σ ok Q q => Ok.one ha ok fun x B1 H1 x1 o1 r1 => by
    cases r1 with
    | lst h1 h2 =>
      obtain ⟨ks, e1, e2, h3⟩ := reps_tups h2
      subst e1 e2
      rw [List.length_map] at hl
      have q1 := q _ B1 H1 x1 o1 (.int _)
      rw [List.length_map] at q1
      exact ⟨_, ks, rfl, .inl (.inl (o1.sm _ _ h1)), fun p hp => same_t o1.sm (h3 p hp), hl, hnd, q1⟩
end
/-! ### sorted -/
theorem uniq {α : Type} {r : α → α → Prop} (anti : ∀ a b, r a b → r b a → a = b) : ∀ {l m : List α}, l.Perm m → l.Pairwise r → m.Pairwise r → l = m
  | [], m, p, _, _ => (List.Perm.eq_nil p.symm).symm
  | a :: l, [], p, _, _ => absurd p.length_eq (by simp)
  | a :: l, b :: m, p, h1, h2 => by
    have ea : a = b := by
      rcases List.mem_cons.mp (p.mem_iff.mp List.mem_cons_self) with e | ha
      · exact e
      · rcases List.mem_cons.mp (p.mem_iff.mpr List.mem_cons_self) with e | hb
        · exact e.symm
        · exact anti a b ((List.pairwise_cons.mp h1).1 b hb) ((List.pairwise_cons.mp h2).1 a ha)
    subst ea
    rw [uniq anti p.cons_inv (List.pairwise_cons.mp h1).2 (List.pairwise_cons.mp h2).2]
def prOf (h : Heap) : Value → Int × Int
  | .ref a => match h.get? a with
    | some o => (match o.data with
      | .seq its _ => (match its.toList with
        | [.int x _, .int y _] => (x, y)
        | _ => (0, 0))
      | _ => (0, 0))
    | none => (0, 0)
  | _ => (0, 0)
theorem prOf_ok {h : Heap} {v : Value} {x y : Int} (p : Srt.IsPair h v x y) : prOf h v = (x, y) := by
  obtain ⟨a, o, t, u, n, rfl, ho, _, hd⟩ := p
  unfold prOf
  simp only [ho, hd]
/-- not behind: by the first, then by the second -/
def lexLe (p q : Int × Int) : Prop := ¬ (q.1 < p.1 ∨ (q.1 = p.1 ∧ q.2 < p.2))
theorem lexLe_anti (p q : Int × Int) (h1 : lexLe p q) (h2 : lexLe q p) : p = q := by
  unfold lexLe at h1 h2
  exact Prod.ext (by omega) (by omega)
def rSortedPT (K : PySem.W.Frag) : List V → Hp → VK → Prop := fun vs H Q => ∃ (a : Addr) (xs : List V) (ps : List (Int × Int)), vs = [V.ref a] ∧ SqL K H a xs ∧ xs.length = ps.length ∧ (∀ (i : Nat) (x : V), xs[i]? = some x → ∃ t p, x = .ref t ∧ ps[i]? = some p ∧ SqT K H t [.int p.1, .int p.2]) ∧
  ∀ (ys : List V) (rs : List (Int × Int)) (q : Addr), ys.length = rs.length → (∀ (i : Nat) (y : V) (r : Int × Int), ys[i]? = some y → rs[i]? = some r → ∃ j : Nat, xs[j]? = some y ∧ ps[j]? = some r) → rs.Perm ps → rs.Pairwise lexLe → H q = none → Q (.ref q) (upd H q (.lst ys))
theorem cr_sortedPT {X : Cx} : CallR X (.builtin "sorted") (rSortedPT X.K) := by
  intro pins s σ H vs us Q I r h
  obtain ⟨a, xs, ps, rfl, hs, hlen, hx, q⟩ := h
  obtain ⟨its, rv, hl, hz⟩ := I.list hs
  rw [Vals.ref1 r]
  obtain ⟨e1, e2⟩ := refs_back rv fun x m => by
    obtain ⟨i, hi, e⟩ := List.getElem_of_mem m
    obtain ⟨t, p, e, _⟩ := hx i x (List.getElem?_eq_some_iff.mpr ⟨hi, e⟩)
    exact ⟨t, e⟩
  have hil : its.length = ps.length := by rw [← rv.length]; exact hlen
  have at_ : ∀ (i : Nat) (v : Value), its[i]? = some v → ∃ p, ps[i]? = some p ∧ Srt.IsPair s.heap v p.1 p.2 := fun i v hv => by
    have hx1 : xs[i]? = some (backV v) := by rw [e1, List.getElem?_map, hv]; rfl
    obtain ⟨t, p, e, hp, sq⟩ := hx i _ hx1
    obtain ⟨b, rfl⟩ := e2 v (List.mem_of_getElem? hv)
    have e : V.ref b = V.ref t := e
    have e : b = t := V.ref.inj e
    subst e
    obtain ⟨us, r2, ⟨o, ho, hc, n, hd⟩, _⟩ := I.tuple sq
    obtain ⟨u1, u2, rfl, ri, rj⟩ := vals2 r2
    obtain ⟨t1, rfl⟩ := ri
    obtain ⟨t2, rfl⟩ := rj
    exact ⟨p, hp, b, o, t1, t2, n, rfl, ho, hc, hd⟩
  have eps : its.map (prOf s.heap) = ps := by
    refine List.ext_getElem? fun i => ?_
    rw [List.getElem?_map]
    cases e : its[i]? with
    | none =>
      have : ps[i]? = none := by
        rw [List.getElem?_eq_none_iff] at e ⊢
        omega
      rw [this]
      rfl
    | some v =>
      obtain ⟨p, hp, ip⟩ := at_ i v e
      rw [hp]
      exact congrArg some (prOf_ok ip)
  refine SrtO.sorted_pairsO (k := prOf s.heap) hl.isList (by rw [← rv.length]; exact hz) (fun v hv => ?_) fun h' d out h1 h2 kp hd hn => ?_
  · obtain ⟨i, hi, e⟩ := List.getElem_of_mem hv
    obtain ⟨p, hp, ip⟩ := at_ i v (List.getElem?_eq_some_iff.mpr ⟨hi, e⟩)
    rw [prOf_ok ip]
    exact ip
  · have h3 : ∀ u ∈ out, ∃ a, u = Value.ref a := fun u hu => e2 u (h2.perm.mem_iff.mp hu)
    obtain ⟨n, hn⟩ := hn
    refine ⟨.ref d, upd H d (.lst (out.map backV)), I.laid (t' := s.toks) kp hd ⟨?_, out, n, vals_back h3, hn⟩, rfl, q _ (out.map (prOf s.heap)) d (by rw [List.length_map, List.length_map]) (fun i y rr hy hr => ?_) ?_ ?_ (I.hok.fresh hd)⟩
    · rw [List.length_map, h2.perm.length_eq, ← rv.length]
      exact hz
    · rw [List.getElem?_map] at hy hr
      cases e : out[i]? with
      | none => rw [e] at hy; cases hy
      | some u =>
        rw [e] at hy hr
        cases hy
        cases hr
        obtain ⟨j, hj, e3⟩ := List.getElem_of_mem (h2.perm.mem_iff.mp (List.mem_of_getElem? e))
        have e4 : its[j]? = some u := List.getElem?_eq_some_iff.mpr ⟨hj, e3⟩
        exact ⟨j, by rw [e1, List.getElem?_map, e4]; rfl, by rw [← eps, List.getElem?_map, e4]; rfl⟩
    · rw [← eps]
      exact h2.perm.map _
    · rw [List.pairwise_map]
      exact List.Pairwise.imp (fun {u v} h => by
        have := SrtO.lexB_no.mp h
        exact this) h1
theorem reps_idx {K : PySem.W.Frag} {B : Hp} : ∀ {ys : List V} {ds : List D}, ys.length = ds.length → (∀ (i : Nat) (y : V) (d : D), ys[i]? = some y → ds[i]? = some d → Rep K B y d) → Reps K B ys ds
  | [], [], _, _ => .nil
  | [], _ :: _, h, _ => by simp at h
  | _ :: _, [], h, _ => by simp at h
  | y :: ys, d :: ds, h, hr => .cons (hr 0 y d rfl rfl) (reps_idx (by simpa using h) fun i y d hy hd => hr (i + 1) y d hy hd)
def eI2 (p : Int × Int) : D := .tup [.int p.1, .int p.2]
section
variable {X : Cx} {W : WX} {k : Nat} {e a b c : Expr} {es : List Expr} {s s' s1 s2 : A} {d da db : D} {xs ys : List D} {pos p2 p q : Pos}
/-- sorted(l), l a list of pairs of ints: qs is what it comes to -/
theorem jf_sortedP {ps qs : List (Int × Int)} (hm : X.mg "sorted" = none) (ha : JE X WN a s (.ok (.lst (ps.map eI2))) s1) (hp : qs.Perm ps) (hs : qs.Pairwise lexLe) (hg : Gl X "sorted" := by rfl)
    (he : starEach (a :: []) X.env = (false, eval a X.env) :: starEach [] X.env := by rfl) (hpl : (backTo pos (starEach [] X.env)).any (·.1) = false := by rfl) : JF X (.Call (.Name "sorted" p) [a] [] pos) s (qs.map eI2) s1 :=
  jf_of (pe_callB cr_sortedPT hg hm (by decide +kernel) (pa_cons pe_w pa_nil he) (by decide) (by decide) he hpl) fun as B H σ ok Q q => Ok.one (W := WN) ha ok fun v B1 H1 x1 o1 r1 => by
    cases r1 with
    | @lst a0 vs _ h1 h2 =>
      have hl := h2.length
      rw [List.length_map] at hl
      refine ⟨a0, vs, ps, rfl, .inl (.inl (o1.sm _ _ h1)), hl, fun i x hx => ?_, fun ys rs q0 e1 e2 e3 e4 hq => ?_⟩
      · obtain ⟨d, hd, hr⟩ := h2.getV hx
        rw [List.getElem?_map] at hd
        cases e : ps[i]? with
        | none => rw [e] at hd; cases hd
        | some p =>
          rw [e] at hd
          have hd : eI2 p = d := Option.some.inj hd
          subst hd
          cases hr with
          | @tup t us _ sq hv =>
            have z := (show Reps X.K B1 us (([p.1, p.2] : List Int).map .int) from hv).ints
            subst z
            exact ⟨t, p, rfl, rfl, same_t o1.sm sq⟩
      · have er : rs = qs := uniq lexLe_anti (e3.trans hp.symm) e4 hs
        subst er
        refine Ok.newF x1 o1 hq (reps_idx (by rw [List.length_map]; exact e1) fun i y d hy hd => ?_) q
        rw [List.getElem?_map] at hd
        cases e : rs[i]? with
        | none => rw [e] at hd; cases hd
        | some r =>
          rw [e] at hd
          have hd : eI2 r = d := Option.some.inj hd
          subst hd
          obtain ⟨j, hj1, hj2⟩ := e2 i y r hy e
          obtain ⟨d2, hd2, hr⟩ := h2.getV hj1
          rw [List.getElem?_map, hj2] at hd2
          have hd2 : eI2 r = d2 := Option.some.inj hd2
          subst hd2
          exact hr
/-- sorted(l), l a list of ints -/
theorem jf_sortedI {ns ms : List Int} (hm : X.mg "sorted" = none) (ha : JE X WN a s (.ok (.lst (ns.map .int))) s1) (hp : ms.Perm ns) (hs : ms.Pairwise (· ≤ ·)) (hg : Gl X "sorted" := by rfl)
    (he : starEach (a :: []) X.env = (false, eval a X.env) :: starEach [] X.env := by rfl) (hpl : (backTo pos (starEach [] X.env)).any (·.1) = false := by rfl) : JF X (.Call (.Name "sorted" p) [a] [] pos) s (ms.map .int) s1 :=
  jf_of (pe_callB cr_sortedI hg hm (by decide +kernel) (pa_cons pe_w pa_nil he) (by decide) (by decide) he hpl) fun as B H σ ok Q q => Ok.one (W := WN) ha ok fun v B1 H1 x1 o1 r1 => by
    cases r1 with
    | @lst a0 vs _ h1 h2 =>
      have z := h2.ints
      subst z
      refine ⟨a0, ns, rfl, .inl (.inl (o1.sm _ _ h1)), fun ns' q0 e1 e2 hq => ?_⟩
      have er : ns' = ms := uniq (fun a b h1 h2 => Int.le_antisymm h1 h2) (e1.trans hp.symm) e2 hs
      subst er
      exact Ok.newF x1 o1 hq (Reps.of_ints _) q
end
end DL
set_option Elab.async false
set_option linter.all false
set_option maxRecDepth 100000
set_option maxHeartbeats 4000000
set_option autoImplicit true
/-! DLp: comprehensions over pairs -/
namespace DL
open PySem PySem.Spec PyProof.Rows L2
section
variable {X : Cx} {W : WX} {k : Nat} {e a b c iter elt : Expr} {s s' s1 s2 s3 : A} {d d' da db dc : D} {pos p2 p apos pos' px py pp : Pos} {x y : Str} {scope : Scope}
/-- [elt for x, y in l], x in slot i, y in slot j -/
theorem lc_map2 {α : Type} (i j : Nat) (lst : List α) {d1 d2 f : α → D} (C : Cok X W k) (hi : JI X (.Tuple [.Name x px, .Name y py] 0 pp) iter s (lst.map fun a => .tup [d1 a, d2 a]) s1)
    (hs : ∀ a ∈ lst, Blk X scope fun Y => Cok Y WN k → JE Y WN elt ⟨(s1.sl.set i (.d (d1 a))).set j (.d (d2 a)), s1.cl⟩ (.ok (f a)) ⟨(s1.sl.set i (.d (d1 a))).set j (.d (d2 a)), s1.cl⟩) (hlen : lst.length ≤ sizeLine := by assumption)
    (hblk : blkC X.N X.env.scope scope [(x, i), (y, j)] = true := by kernel_rfl) (hn : i < s1.sl.length := by exact of_decide_eq_true rfl) (hm : j < s1.sl.length := by exact of_decide_eq_true rfl) (hij : i ≠ j := by decide) (hNi : X.N[i]? = some x := by rfl) (hNj : X.N[j]? = some y := by rfl)
    (hloc : Blk X scope fun Y => Loc Y.env.scope x := by first | exact fun _ _ _ _ _ => Or.inl rfl | exact fun _ _ _ _ _ => Or.inr rfl) (hfn : Blk X scope fun Y => Y.fn x = true ∨ Y.env.scope.names.lookup x = some .local := by first | exact fun _ _ _ _ _ => .inr rfl | exact fun _ _ _ _ _ => .inl rfl)
    (hloc2 : Blk X scope fun Y => Loc Y.env.scope y := by first | exact fun _ _ _ _ _ => Or.inl rfl | exact fun _ _ _ _ _ => Or.inr rfl) (hfn2 : Blk X scope fun Y => Y.fn y = true ∨ Y.env.scope.names.lookup y = some .local := by first | exact fun _ _ _ _ _ => .inr rfl | exact fun _ _ _ _ _ => .inl rfl) :
    Lc X (.Tuple [.Name x px, .Name y py] 0 pp) iter elt [] scope [(x, i), (y, j)] (gTup X.K 2 (gCons (gName i) (gCons (gName j) gNil))) s (lst.map f) s1 := by
  have h := lc_mk (elt := elt) (ifs := []) hi (tgt_pair (K := X.K) hn hm hij) (blkOk_by hblk) (Nat.zero_le _) (fun s0 H0 C0 cl0 fp0 => pg_tup (C.blk s0 H0 C0 cl0 fp0).calm (pgs_cons (pg_name C.nd hNi (hloc s0 H0 C0 cl0 fp0) (hfn s0 H0 C0 cl0 fp0)) (pgs_cons (pg_name C.nd hNj (hloc2 s0 H0 C0 cl0 fp0) (hfn2 s0 H0 C0 cl0 fp0)) pgs_nil))) (fun j => (lst.take j).map f) (fun _ => s1.cl) rfl rfl (fun j hj => by
    rw [List.length_map, List.length_take]
    rw [List.length_map] at hj
    omega) (fun q d hd => by
    rw [List.getElem?_map] at hd
    cases eq : lst[q]? with
    | none => rw [eq] at hd; cases hd
    | some a =>
      rw [eq] at hd
      have hd' : D.tup [d1 a, d2 a] = d := Option.some.inj hd
      subst hd'
      refine ⟨(s1.sl.set i (.d (d1 a))).set j (.d (d2 a)), true, ⟨d1 a, d2 a, rfl, ?_⟩, rfl, fun _ => ⟨f a, fun s0 H0 C0 cl0 fp0 => hs a (List.mem_of_getElem? eq) s0 H0 C0 cl0 fp0 (C.blk s0 H0 C0 cl0 fp0), ?_⟩, fun z => nomatch z⟩
      · show (((s1.sl.set j .u).set i .u).set i (.d (d1 a))).set j (.d (d2 a)) = _
        rw [List.set_set, List.set_comm _ _ (Ne.symm hij), List.set_set]
      · rw [List.take_add_one, eq, List.map_append]
        rfl)
  rw [List.length_map, List.take_length] at h
  exact h
end
end DL
set_option Elab.async false
set_option linter.all false
set_option maxRecDepth 100000
set_option maxHeartbeats 4000000
set_option autoImplicit true
/-! DLq: l.remove(x) -/
namespace DL
open PySem PySem.Spec PyProof.Rows L2
section
variable {X : Cx} {W : WX} {k : Nat} {e : Expr} {s s' s1 : A} {P : Po} {d : D} {pos p2 p apos : Pos} {x : Str} {l : List Sl}
/-- l.remove(e), l a cell of whole numbers that has e -/
theorem js_rem (i j : Nat) {cl : List Cl} {ns : List Int} {n : Int} (C : Cok X W k) (he : JE X WN e s (.ok (.int n)) s1) (hmem : n ∈ ns) (hP : P.nx ⟨l, cl⟩) (hsl : s1.sl = l := by (first | (dsimp only [List.set, List.length_cons, List.length_nil, List.cons_append, List.nil_append, Nat.reduceAdd]; done) | (dsimp only [List.set, List.length_cons, List.length_nil, List.cons_append, List.nil_append, Nat.reduceAdd]; exact rfl) | exact rfl)) (hi : s.sl[i]? = some (.c j) := by rfl) (hc0 : ∃ zs, s.cl[j]? = some (.lst zs) := by exact ⟨_, rfl⟩) (hc : s1.cl[j]? = some (.lst (ns.map .int)) := by rfl) (hcl : s1.cl.set j (.lst ((ns.erase n).map .int)) = cl := by (first | (dsimp only [List.set, List.length_cons, List.length_nil, List.cons_append, List.nil_append, Nat.reduceAdd]; done) | (dsimp only [List.set, List.length_cons, List.length_nil, List.cons_append, List.nil_append, Nat.reduceAdd]; exact rfl) | exact rfl)) (hN : X.N[i]? = some x := by rfl)
    (hv : Vis X.env.scope x := by first | exact Or.inl rfl | exact Or.inr (Or.inl rfl) | exact Or.inr (Or.inr rfl)) (hd1 : (x == ("__debug__" : Str)) = false := by decide) (hd2 : (x == ("__classdict__" : Str)) = false := by decide)
    (hbase : attributeBase (.Name x p2) "remove" X.env (eval (.Name x p2) X.env) = eval (.Name x p2) X.env := by rfl)
    (hfew : ((backTo p (starEach (e :: []) X.env)).all (fun x => !x.1) && (backToKw p (keywordEach [] X.env)).all (fun x => x.1.isSome)
      && decide ((e :: []).length + ([] : List Keyword).length + (if ([] : List Keyword).isEmpty then 0 else 1) < 30)) = true := by rfl)
    (hline : (apos.endLine == p.line) = true := by rfl) (hs : starEach (e :: []) X.env = (false, eval e X.env) :: starEach [] X.env := by rfl) (hplain : (backTo p (starEach [] X.env)).any (·.1) = false := by rfl)
    (hsw : swapsWith (.Call (.Attribute (.Name x p2) "remove" apos) [e] [] p) none pos.line X.env = pure false := by rfl) :
    JS X W (.Expr (.Call (.Attribute (.Name x p2) "remove" apos) [e] [] p) pos) s P :=
  js_of (ps_expr (pe_remX C.calm C.tk (pe_var hN hv hd1 hd2) pe_w hbase hfew hline hs hplain) hsw) fun as B H σ ok Dn f => by
    obtain ⟨a, e1, ha⟩ := cell_of ok hi
    obtain ⟨zs, hz⟩ := hc0
    obtain ⟨us, hu, _⟩ := ok.cs.2 j a _ ha hz
    refine ⟨.ref a, e1, .inl ⟨rfl, _, .inl (.inl hu)⟩, Ok.one he ok fun v B1 H1 x1 o1 r1 => ?_⟩
    cases r1
    obtain ⟨vs, hH, hv⟩ := o1.cs.2 j a _ ha hc
    have ev := hv.ints
    subst ev
    obtain ⟨o2, x2⟩ := o1.wr (o := .lst ((ns.erase n).map V.int)) (c' := .lst ((ns.erase n).map .int)) ha hc True.intro ⟨_, upd_same, Reps.of_ints _⟩
    rw [hcl] at o2
    rw [← hsl] at hP
    exact ⟨a, ns, n, rfl, rfl, hH, fun _ => f.nx as _ _ σ _ (x1.trans x2) o2 hP, fun z => absurd hmem z⟩
end
end DL
set_option Elab.async false
set_option linter.all false
set_option maxRecDepth 100000
set_option maxHeartbeats 4000000
set_option autoImplicit true
/-! DLr: sorted of a tuple -/
namespace DL
open PySem PySem.Spec PyProof.Rows L2
/-- sorted(t), t a tuple of whole numbers -/
def rSortedTI (K : PySem.W.Frag) : List V → Hp → VK → Prop := fun vs H Q => ∃ (a : Addr) (ns : List Int), vs = [V.ref a] ∧ SqT K H a (ns.map V.int) ∧
  ∀ (ns' : List Int) (p : Addr), ns'.Perm ns → ns'.Pairwise (· ≤ ·) → H p = none → Q (.ref p) (upd H p (.lst (ns'.map V.int)))
section
variable {X : Cx}
theorem cr_sortedTI : CallR X (.builtin "sorted") (rSortedTI X.K) := by
  intro pins s σ H vs us Q I r h
  obtain ⟨a, ns, rfl, hs, q⟩ := h
  obtain ⟨its, rv, hl, hz⟩ := I.tuple hs
  rw [Vals.ref1 r]
  have hi := rv.ints
  have hz2 : its.length ≤ sizeLine := by rw [← rv.length]; exact hz
  obtain ⟨o, ho, hc, n, hd⟩ := hl
  refine Calls.call_function_entry kind_sorted plain_sorted entry_sorted (args_sorted1 _) ?_
  unfold Builtin.«sorted»
  refine wpAny_bind (m := checkCount "sorted" 1 1 _) (wpAny_pure ?_)
  refine wpAny_bind (wpAny_collect_seq a (.inr rfl) ho hc hd (fun h1 keep1 => ?_) (by simpa using hz2))
  have I1 : Inv X pins σ H { s with heap := h1, toks := s.toks } := I.kept fun b o e => keep1 b o e
  refine wpAny_bind (wpAny_newList ?_ (by simpa using hz2))
  have hoL : (h1.push (seqObj "list" its.toArray 0)).get? h1.objs.size = some (seqObj "list" its.toArray 0) := Heap.get?_push_size _ rfl
  refine wpAny_bind (wpAny_holding (wpAny_call_entry slot_list_sort ⟨_, hoL, rfl⟩ entry_list_sort (SrtO.list_sort_ord SrtO.swo_int hoL hz2 (fun h2 => SrtO.ints_sortable hi h2) fun out o1 o2 => ⟨_, rfl, ?_⟩) (args_list_sort _)))
  obtain ⟨k1, k2, k3⟩ := SrtO.ints_out hi o1 o2
  obtain ⟨ep, he'⟩ := PyProof.Rows.sortedHeap_at (vs := its) (out := out.toArray) hoL
  have hlen : ((out.map SrtO.iv).map V.int).length ≤ sizeLine := by
    rw [List.length_map, k2.length_eq]
    rw [List.length_map] at hz
    exact hz
  refine wpAny_pure ⟨_, rfl, ?_⟩
  refine ⟨.ref _, upd H h1.objs.size (.lst ((out.map SrtO.iv).map V.int)), I1.laid (t' := s.toks) (fun b u hb => ?_) (Nat.le_refl _) ⟨hlen, out, ep, vals_of_ints k1, he'⟩, rfl, q _ _ k2 k3 (I1.hok.fresh (Nat.le_refl _))⟩
  have hlt : b < h1.objs.size := Heap.lt_size hb
  rw [PyProof.Rows.sortedHeap_old (Nat.ne_of_lt hlt) (by rw [size_push']; exact Nat.lt_succ_of_lt hlt)]
  exact Heap.get?_push_of_some _ hb
theorem jf_sortedTI {W : WX} {a : Expr} {st s1 : A} {p pos : Pos} {ns ms : List Int} (hm : X.mg "sorted" = none) (ha : JE X WN a st (.ok (.tup (ns.map .int))) s1) (hp : ms.Perm ns) (hs : ms.Pairwise (· ≤ ·)) (hg : Gl X "sorted" := by rfl)
    (he : starEach (a :: []) X.env = (false, eval a X.env) :: starEach [] X.env := by rfl) (hpl : (backTo pos (starEach [] X.env)).any (·.1) = false := by rfl) : JF X (.Call (.Name "sorted" p) [a] [] pos) st (ms.map .int) s1 :=
  jf_of (pe_callB cr_sortedTI hg hm (by decide +kernel) (pa_cons pe_w pa_nil he) (by decide) (by decide) he hpl) fun as B H σ ok Q q => Ok.one (W := WN) ha ok fun v B1 H1 x1 o1 r1 => by
    cases r1 with
    | @tup a0 us _ sq hr =>
      have e := hr.ints
      subst e
      refine ⟨a0, ns, rfl, same_t o1.sm sq, fun ns' q0 e1 e2 hq => ?_⟩
      have er : ns' = ms := uniq (fun a b h1 h2 => Int.le_antisymm h1 h2) (e1.trans hp.symm) e2 hs
      subst er
      exact Ok.newF x1 o1 hq (Reps.of_ints _) q
/-- sorted(set(t)), t a tuple of whole numbers, few different ones -/
def tSortSetT (K : PySem.W.Frag) (ta : TE) : TE := fun σ H Q => ta σ H fun x H1 => ∃ (l : Addr) (ns M : List Int), x = V.ref l ∧ SqT K H1 l (ns.map V.int) ∧ ns.length < 4000 ∧ (∀ k ∈ ns, k ∈ M) ∧ M.length < 64 ∧
  ∀ (ms : List Int) (p : Addr), ms.Pairwise (· < ·) → (∀ k : Int, k ∈ ms ↔ k ∈ ns) → H1 p = none → Q (.ref p) (upd H1 p (.lst (ms.map V.int)))
theorem pe_sortSetT {a : Expr} {p p2 q pos : Pos} {ta : TE} (hc : X.calm = true) (hg : Gl X "sorted") (hm : X.mg "sorted" = none) (hg2 : Gl X "set") (hm2 : X.mg "set" = none) (ha : PE X a ta)
    (na : starEach [a] X.env = (false, eval a X.env) :: starEach [] X.env := by rfl) : PE X (.Call (.Name "sorted" p) [.Call (.Name "set" p2) [a] [] q] [] pos) (tSortSetT X.K ta) := by
  refine ⟨fun pins s σ H Q I h => ?_⟩
  refine Call_ (ld_blt I hg hm PyProof.Rows.boot_sorted ?_) 
  refine PyProof.Rows.callWith_builtin1 (PyProof.Rows.args_cons ?_ rfl) rfl rfl
  refine Call_ (ld_blt I hg2 hm2 PyProof.Rows.boot_set ?_)
  refine PyProof.Rows.callWith_type1 (PyProof.Rows.args_cons (thn (ha.run pins s σ H _ I h) fun v s1 ⟨x, H1, I1, r1, q1⟩ => PyProof.Rows.args_nil ?_) na) na rfl
  obtain ⟨l, ns, M, rfl, hq, h1, hM, hM2, q1⟩ := q1
  cases r1
  obtain ⟨its, rv, pl, hz⟩ := I1.tuple hq
  have hi : IntsAre its.toArray.toList ns := by simpa using rv.ints
  refine call_set_tupI (P := X.prog) (w := X.w) ns (I1.ok.hd hc) pl hi (by unfold scanBound; omega) fun h' tk c R hcn hkeep => ?_
  refine PyProof.Rows.args_nil ?_
  have I2 : Inv X pins σ H1 { s1 with heap := h', toks := tk } := I1.kept fun b o e => hkeep b o e
  have h64 : c < 64 := by
    obtain ⟨o, es, ep, t, ho, hex, hd, g, nd, hm, hb, hf, hn, hr, hl⟩ := R
    have := nd_len nd (M := M) fun k hk => by
      have := (hm k).mpr hk
      exact hM k (of_decide_eq_true this)
    rw [List.length_map, Array.length_toList] at this
    omega
  refine sorted_set (s := { s1 with heap := h', toks := tk }) R (I1.ok.hd hc) h64 fun s' p out c2 ns2 k g o hp hg3 hi2 hs hm3 hl2 => ?_
  have hlen : (ns2.map V.int).length ≤ sizeLine := by rw [List.length_map, hl2, sizeLine_eq]; omega
  have hp' : s1.heap.objs.size ≤ p := by
    obtain ⟨o, es, ep, t, ho, _⟩ := R
    have h1 := Heap.lt_size ho
    exact Nat.le_trans (Nat.le_of_lt h1) hp
  have k' : ∀ b u, s1.heap.get? b = some u → s'.heap.get? b = some u := fun b u e => k b u (hkeep b u e)
  have hn : H1 p = none := I1.hok.fresh hp'
  have J : Inv X pins σ (upd H1 p (.lst (ns2.map V.int))) { s1 with heap := s'.heap, gens := s'.gens, drawn := s'.drawn, toks := s'.toks } :=
    I1.call (ch := []) (Un.laid k' hp' hn) (I1.hok.laid k' hp' ⟨hlen, out.toList, c2, vals_of_ints hi2, hg3⟩) (by rw [g]; exact I1.bare) (fun _ z => nomatch z)
  have e : s' = { s1 with heap := s'.heap, gens := s'.gens, drawn := s'.drawn, toks := s'.toks } := by
    cases s'
    cases s1
    cases o
    rfl
  rw [e]
  exact ⟨.ref p, _, J, rfl, q1 ns2 p hs (fun k => (hm3 k).trans (by rw [decide_eq_true_eq])) hn⟩
theorem sorted_ext : ∀ {l m : List Int}, l.Pairwise (· < ·) → m.Pairwise (· < ·) → (∀ k, k ∈ l ↔ k ∈ m) → l = m
  | [], [], _, _, _ => rfl
  | [], b :: m, _, _, h => nomatch (h b).mpr List.mem_cons_self
  | a :: l, [], _, _, h => nomatch (h a).mp List.mem_cons_self
  | a :: l, b :: m, h1, h2, h => by
    obtain ⟨a1, a2⟩ := List.pairwise_cons.mp h1
    obtain ⟨b1, b2⟩ := List.pairwise_cons.mp h2
    have e : a = b := by
      rcases List.mem_cons.mp ((h a).mp List.mem_cons_self) with e | z
      · exact e
      · rcases List.mem_cons.mp ((h b).mpr List.mem_cons_self) with e | z2
        · exact e.symm
        · have := b1 a z; have := a1 b z2; omega
    subst e
    rw [sorted_ext a2 b2 fun k => ?_]
    have hk := h k
    rw [List.mem_cons, List.mem_cons] at hk
    constructor
    · intro z
      have := a1 k z
      exact (hk.mp (.inr z)).elim (fun e => by omega) id
    · intro z
      have := b1 k z
      exact (hk.mpr (.inr z)).elim (fun e => by omega) id
theorem jf_sortSetT {W : WX} {k : Nat} {a : Expr} {st s1 : A} {p p2 q pos : Pos} {ns ms M : List Int} (C : Cok X W k) (hm : X.mg "sorted" = none) (hm2 : X.mg "set" = none) (ha : JE X WN a st (.ok (.tup (ns.map .int))) s1) (h1 : ns.length < 4000) (hM : ∀ k ∈ ns, k ∈ M) (hM2 : M.length < 64) (hs : ms.Pairwise (· < ·)) (hmem : ∀ k, k ∈ ms ↔ k ∈ ns) (hg : Gl X "sorted" := by rfl) (hg2 : Gl X "set" := by rfl)
    (na : starEach [a] X.env = (false, eval a X.env) :: starEach [] X.env := by rfl) : JF X (.Call (.Name "sorted" p) [.Call (.Name "set" p2) [a] [] q] [] pos) st (ms.map .int) s1 :=
  jf_of (pe_sortSetT C.calm hg hm hg2 hm2 pe_w na) fun as B H σ ok Q q => Ok.one (W := WN) ha ok fun v B1 H1 x1 o1 r1 => by
    cases r1 with
    | @tup a0 us _ sq hr =>
      have e := hr.ints
      subst e
      refine ⟨a0, ns, M, rfl, same_t o1.sm sq, h1, hM, hM2, fun ns' q0 e1 e2 hq => ?_⟩
      have er : ns' = ms := sorted_ext e1 hs fun k => (e2 k).trans (hmem k).symm
      subst er
      exact Ok.newF x1 o1 hq (Reps.of_ints _) q
/-- t[lo:hi], t a tuple, not the whole of it -/
theorem je_cutT {W : WX} {a : Expr} {st : A} {p2 pos : Pos} {lo hi : Option Expr} {l u : Option Int} {xs : List D} (ha : JE X W a st (.ok (.tup xs)) st) (hl : JO X lo st l) (hu : JO X hi st u) (hn : ¬ (HT.sIx xs.length 0 l = 0 ∧ HT.sIx xs.length xs.length u = xs.length)) : JE X W (.Subscript a (.Slice lo hi none p2) pos) st (.ok (.tup (cutG xs l u))) st :=
  je_of (pe_slice sl_tup pe_w po_w po_w) fun as B H σ ok Q q => Ok.one ha ok fun x B1 H1 e1 o1 r => hl as B1 H1 σ o1 _ fun B2 H2 e2 o2 => hu as B2 H2 σ o2 _ fun B3 H3 e3 o3 => by
    cases r with
    | tup sa ra =>
      refine ⟨_, _, rfl, same_t o3.sm (same_t (e2.b.trans e3.b) sa), by rw [ra.length]; exact hn, fun p hp => ?_⟩
      obtain ⟨o4, e4⟩ := o3.new (o := .tup _) hp
      exact q _ _ _ (((e1.trans e2).trans e3).trans e4) o4 (.tup (.inl (.inl upd_same)) (((ra.mono (e2.b.trans e3.b)).cut l u).mono e4.b))
end
end DL
set_option Elab.async false
set_option linter.all false
set_option maxRecDepth 100000
set_option maxHeartbeats 4000000
set_option autoImplicit true
/-! DLs: tuple of a range -/
namespace DL
open PySem PySem.Spec PyProof.Rows L2
section
variable {X : Cx}
/-- tuple(range(m)) -/
theorem je_tupR {W : WX} {k m : Nat} {a : Expr} {s s1 : A} {p p2 pos pos' : Pos} (C : Cok X W k) (hm : X.mg "tuple" = none) (hr : X.mg "range" = none) (h : JE X WN a s (.ok (.int (m : Nat))) s1) (hn : m ≤ 16777216) (hg : Gl X "tuple" := by rfl) (hg2 : Gl X "range" := by rfl) (h1 : starEach [a] X.env = (false, eval a X.env) :: starEach [] X.env := by rfl)
    (hs : starEach [Expr.Call (.Name "range" p) [a] [] pos] X.env = (false, eval (.Call (.Name "range" p) [a] [] pos) X.env) :: starEach [] X.env := by rfl) : JE X W (.Call (.Name "tuple" p2) [.Call (.Name "range" p) [a] [] pos] [] pos') s (.ok (.tup ((List.range m).map fun i : Nat => D.int (i : Nat)))) s1 :=
  je_of (pe_tupRg C.calm hg hm (prg_1 hg2 hr pe_w h1) hs) fun as B H σ ok Q q => Ok.one h ok fun v B1 H1 x1 o1 r1 => by
    cases r1
    refine ⟨m, rfl, RgOk.of_le (by omega) (by omega) (by omega) (by omega), fun p hp => ?_⟩
    have e : rgV 0 (m : Int) = (List.range m).map fun i : Nat => V.int (i : Nat) := by
      unfold rgV
      have e1 : ((m : Int) - 0).toNat = m := by omega
      rw [e1]
      exact List.map_congr_left fun i _ => by rw [Int.zero_add]
    rw [e]
    have rr : ∀ l : List Nat, Reps X.K B1 (l.map fun i : Nat => V.int (i : Nat)) (l.map fun i : Nat => D.int (i : Nat)) := fun l => by
      induction l with
      | nil => exact .nil
      | cons x l ih => exact .cons (.int _) ih
    obtain ⟨o3, e3⟩ := o1.new (o := .tup _) hp
    exact q _ _ _ (x1.trans e3) o3 (.tup (.inl (.inl upd_same)) ((rr _).mono e3.b))
end
end DL
set_option Elab.async false
set_option linter.all false
set_option maxRecDepth 100000
set_option maxHeartbeats 4000000
set_option autoImplicit true
/-! DLt: a comprehension that an exception ends -/
namespace DL
open PySem PySem.Spec PyProof.Rows L2
/-- the comprehension's block ends by an exception, in no other way -/
def endsBy (M : Model) (A : Around) (E : Value → Shared → Prop) (ce : Env) : Result → Shared → Prop
  | .ok _, _ => False
  | .error x, s' => ∃ m, s'.heap.Ns ce.locals m ∧ ∀ h', Heap.SameBut ce.locals s'.heap h' → wpAny M A (PySem.passOn "comprehension.variables-let-go" x ce : Sem Value) (fun _ _ => False) E { s' with heap := h' }
theorem comp_ends {M : Model} {A : Around} {E : Value → Shared → Prop} {s : Shared} {env : Env} {e : Expr} {scope : Scope} {pos : Pos} {newAcc first : Sem Value} {g : Comprehension} {gs : List Comprehension} {cl : List (Str × Addr)} {Q : Value → Shared → Prop}
    (hcl : clausesOf e = g :: gs) (hs : ∀ x, foldedSetIterable g.iter env x = pure x) (hclos : closureFor scope env = pure cl) (hkind : scope.kind = .function) (hnames : ∀ x ∈ scope.names, x.2 = .local → scope.names.lookup x.1 = some .local)
    (h : wpAny M A first (fun x s₁ => wpAny M A (pyIter x) (fun it s₂ => wpAny M A newAcc (fun acc s₃ => wpAny M A (newFunctionEnv scope env.globals cl [] env.qual none .none (some env)) (fun ce s₄ =>
      codeAny M A (.compStart e 0 it acc { ce with scope := relabel scope env }) (endsBy M A E { ce with scope := relabel scope env }) s₄) E s₃) E s₂) E s₁) E s) :
    wpAny M A (comprehension e scope env pos newAcc false first none) Q E s := by
  unfold comprehension
  rw [hclos, hcl]
  have up : ∀ {α : Type} {t : Sem α} {P P' : α → Shared → Prop} {s : Shared}, wpAny M A t P E s → (∀ a s, P a s → P' a s) → wpAny M A t P' E s := fun h k => wpAny_mono h k fun _ _ z => z
  refine wpAny_bind (up h fun x s₁ h₁ => wpAny_bind (wpAny_standAt (wpAny_bind (wpAny_of_eq (hs x) (wpAny_bind (wpAny_holding (up h₁ fun it s₂ h₂ => wpAny_standIf (wpAny_bind (up h₂ fun acc s₃ h₃ => wpAny_bind (wpAny_pure (wpAny_bind (up h₃ fun ce s₄ h₄ => ?_))))))))))))
  dsimp only
  refine wpAny_holding (wpAny_bind (wpAny_attempt (wpAny_holding (wpAny_run (codeAny_mono h₄ fun res u hr => ?_)))))
  cases res with
  | ok f => exact hr.elim
  | error x =>
    obtain ⟨m, hn, hr⟩ := hr
    refine wpAny_bind (wpAny_holding (wpAny_comp_letGo (cenv := { ce with scope := relabel scope env }) hkind _ u m (fun x hx hl => lookup_relabel_local (hnames x (List.mem_filter.mp (List.mem_reverse.mp hx)).1 hl)) hn fun h' m' _ hs' => ?_))
    exact wpAny_mono (hr h' hs') (fun _ _ z => z.elim) fun _ _ y => y
section
variable {X : Cx} {W : WX}
/-- the block's context, with a wish about exceptions -/
abbrev blkW (X : Cx) (s : Shared) (H : Hp) (scope : Scope) (ce : Env) (fp : List Addr) (E : Value → Shared → Prop) : Cx := (X.blk s H scope ce fp).wish E
/-- what a call in the block lets out, passes through the comprehension -/
theorem blk_pass {pins : List (Addr × Obj)} {σ : L2.St} {H3 : Hp} {s3 : Shared} {scope : Scope} {ce : Env} {fp : List Addr} (tk : Takes X W) (hW : ∀ cls d σ σ' H, W cls d σ H → W cls d σ' H) (hs : X.stack = X.env :: X.outer) (hf : X.env.frame = some X.env.locals)
    (I3 : Inv X pins σ H3 s3) (f3 : ∀ b ∈ fp, FpOk X pins H3 b) (hL : ce.locals = s3.heap.objs.size) (hF : ce.frame = X.env.frame) (τ : L2.St) :
    PassesAt (L2.CX X.prog X.w) (blkW X s3 H3 scope ce fp (notedBy (model X.prog X.w) X.A ce fun e s' => endsBy (model X.prog X.w) X.A X.xe ce (.error e) s')) τ (WE W τ) := by
  intro pins' H' s5 e s' I c
  have x := XE.of_call (W := W) I (fun _ _ _ h => h) c
  obtain ⟨a2, B2, H2, cls2, d2, e2, fl2, _⟩ := c
  obtain ⟨a, B, sI, pI, σI, HI, cls, d, rfl, II, nb, up, sky, na, os, ag, w⟩ := x
  have ea : a = a2 := by injection e2
  subst ea
  have hfr : X.A.frames = some (X.env :: X.outer) := by rw [← hs]; exact I3.ok.frames
  have enote : noteFrame (.ref a) ce = noteFrame (.ref a) X.env := by
    unfold noteFrame PySem.frameOf
    rw [hF]
  show wpAny _ X.A (noteFrame (.ref a) ce) _ _ _
  rw [enote]
  have held : ∀ {Q : Unit → Shared → Prop} {E' : Value → Shared → Prop}, (∀ h', HandSPX.HeldZ B (X.env :: X.outer) a (Zc cls d) X.env.locals h' → s'.heap.UpToSlots h' → Q () { s' with heap := h' }) → wpAny (model X.prog X.w) X.A (noteFrame (.ref a) X.env) Q E' s' := fun {Q E'} hQ => by
    have sky : Sky B X.stack a (Zc cls d) ce.locals s'.heap := sky
    rw [hs] at sky
    rcases sky with ⟨k1, k2, k3, oe, vs, k4, k5, k6, k7⟩ | fl | hd
    · exact HandSPX.look_newZ Zc.steady hfr k3 hf k4 k1 k2 k6 k7 k5 hQ
    · exact HandSPX.looks_onZ Zc.steady hfr hf fl hQ
    · exfalso
      obtain ⟨_, _, _, oe, vs, T, oT, ts, he, _, hd1, h1, _, _, hT, hdT, h3⟩ := hd
      obtain ⟨_, _, _, oe', vs', T', oT', ts', he', _, hd1', h1', _, _, hT', hdT', h3'⟩ := fl2
      rw [he] at he'; cases he'
      rw [hd1] at hd1'; cases hd1'
      rw [h1] at h1'; cases h1'
      rw [hT] at hT'; cases hT'
      rw [hdT] at hdT'; cases hdT'
      rw [h3] at h3'
      have z : rawInt ce.locals = Value.none := Option.some.inj h3'
      simp [rawInt] at z
  refine held fun h' hd up' => ?_
  show ∃ m, _
  have hst : (blkW X s3 H3 scope ce fp (notedBy (model X.prog X.w) X.A ce fun e s' => endsBy (model X.prog X.w) X.A X.xe ce (.error e) s')).stack = X.stack := rfl
  have J := II.landed (s' := { s' with heap := h' }) nb hd.1 (fun b o e n => by
    obtain ⟨sl, q⟩ := up b o e n
    obtain ⟨sl2, q2⟩ := up' b _ q n
    exact ⟨sl2, q2⟩) os ag
  obtain ⟨m, hn, _⟩ := J.loc
  have hn : h'.Ns ce.locals m := hn
  refine ⟨m, hn, fun h3 sb => ?_⟩
  have nC : HI ce.locals = none := II.free
  have hC : FpOk X pins HI ce.locals := by rw [hL]; exact I3.fpOk (Nat.le_refl _) (by rw [← hL]; exact nC)
  -- the def's state without the exception, the block's names forgotten
  have I7 : Inv X pins σ HI sI := I3.call' (ch := fp) II.os II.base II.hok II.bare fun b hb => ⟨(f3 b hb).2.2.2.1, (f3 b hb).2.1, (f3 b hb).2.2.2.2.1, (f3 b hb).2.2.2.2.2⟩
  obtain ⟨c0, c1, c2, c3, c4, c5⟩ := hC
  have I8 : Inv X pins σ HI { sI with heap := PySem.W.hideAll sI.heap [ce.locals] } := I7.turned (t' := sI.toks) (it := ce.locals) (fun b o hb e => PySem.W.hideAll_get _ e (by simpa using hb)) c0 c1 c3 c4 c5
  have nCst : ce.locals ∉ frs X.stack := fun z => by
    rw [hs] at z
    rcases List.mem_filterMap.mp z with ⟨ev, hev, he⟩
    rcases List.mem_cons.mp hev with e | hev
    · subst e
      rw [hf] at he
      exact c1 (Option.some.inj he).symm
    · exact c2 (List.mem_filterMap.mpr ⟨ev, hev, he⟩)
  have hid : ∀ {h : Heap} {b : Addr} {o : Obj}, (PySem.W.hideAll h [ce.locals]).get? b = some o → b ≠ ce.locals ∧ h.get? b = some o := fun {h b o} e => by
    refine ⟨fun z => ?_, PySem.W.of_hideAll _ e⟩
    rw [PySem.W.hideAll_none [ce.locals] (by simp [z])] at e
    cases e
  have non : ∀ {h : Heap} {b : Addr}, h.get? b = none → (PySem.W.hideAll h [ce.locals]).get? b = none := fun {h b} e => by
    cases q : (PySem.W.hideAll h [ce.locals]).get? b with
    | none => rfl
    | some o => rw [(hid q).2] at e; cases e
  obtain ⟨d1, d2, d3, oe, vs, T, oT, ts, he, hz, hdv, h1, hnT, hTe, hT, hdT, ht3⟩ := hd
  obtain ⟨oc, es, ep, hoc, hdc⟩ := hn
  have fieldsC : ∀ {b : Addr} {o : Obj} {vs : Array Value}, h'.get? b = some o → o.data = .fields vs → b ≠ ce.locals := fun {b o vs} e q z => by
    rw [z, hoc] at e
    cases e
    rw [q] at hdc
    first
      | exact absurd hdc.1 (by simp)
      | (obtain ⟨z1, _⟩ := hdc; cases z1)
      | simp at hdc
  have off : ∀ {b : Addr} {o : Obj}, b ≠ ce.locals → h'.get? b = some o → h3.get? b = some o := fun {b o} n e => (sb.2 b n).trans e
  have held3 : HandSPX.HeldZ (PySem.W.hideAll B [ce.locals]) X.stack a (Zc cls d) X.env.locals h3 := by
    refine ⟨fun b o e => ?_, non d2, ?_, oe, vs, T, oT, ts, off (fieldsC he hdv) he, hz, hdv, h1, non hnT, hTe, off (fieldsC hT hdT) hT, hdT, ht3⟩
    · obtain ⟨n, e⟩ := hid e
      exact off n (d1 b o e)
    · rw [hs]
      refine funFrames_none (base := B) ?_ fun L hL => non (d3.mem hL).1
      have go : ∀ l : List Env, (∀ L ∈ frs l, L ≠ ce.locals) → h'.FunFrames B l → h3.FunFrames B l := by
        intro l
        induction l with
        | nil => intro _ _; trivial
        | cons ev l ih =>
          intro hn ⟨k1, ⟨L, o, k2, k3, k4, k5⟩, k6⟩
          exact ⟨k1, ⟨L, o, k2, k3, off (hn L (List.mem_filterMap.mpr ⟨ev, List.mem_cons_self, k2⟩)) k4, k5⟩, ih (fun L hL => hn L (by
            obtain ⟨e1, h1, h2⟩ := List.mem_filterMap.mp hL
            exact List.mem_filterMap.mpr ⟨e1, List.mem_cons_of_mem _ h1, h2⟩)) k6⟩
      exact go _ (fun L hL z => nCst (by rw [hs, ← z]; exact hL)) d3
  unfold PySem.passOn
  refine wpAny_bind (wpAny_field (off (fieldsC he hdv) he) hdv h1 ?_)
  rw [if_neg (show ¬ (Value.ref T == Value.none) = true from by simp), hF, hf]
  refine wpAny_bind (HandSPX.setFlight_onZ held3 fun h4 held4 up4 => wpAny_throw (tk _ _ ?_))
  refine ⟨a, PySem.W.hideAll B [ce.locals], { sI with heap := PySem.W.hideAll sI.heap [ce.locals] }, pins, σ, HI, cls, d, rfl, I8, fun b o e hb => ?_, fun b o e n => ?_, .inr (.inr held4), na, os, ag, hW _ _ _ _ _ w⟩
  · obtain ⟨n, e⟩ := hid e
    exact PySem.W.hideAll_get _ (nb b o e hb) (by simpa using n)
  · obtain ⟨nc, e⟩ := hid e
    obtain ⟨sl, q⟩ := up b o e n
    obtain ⟨sl2, q2⟩ := up' b _ q n
    obtain ⟨sl3, q3⟩ := up4 b _ (off nc q2) n
    exact ⟨sl3, q3⟩
/-- what holds in every block whose calls' exceptions pass -/
def BlkP (X : Cx) (W : WX) (scope : Scope) (p : Cx → Prop) : Prop := ∀ (s : Shared) (H : Hp) (C : Addr) (cl : List (Str × Addr)) (fp : List Addr) (E : Value → Shared → Prop),
  (∀ τ, PassesAt (L2.CX X.prog X.w) (blkW X s H scope (compEnvC scope cl C X.env) fp E) τ (WE W τ)) → p (blkW X s H scope (compEnvC scope cl C X.env) fp E)
/-- a comprehension that does not come to its end: each turn is taken, and at some turn the item raises -/
def tLx (X : Cx) (W : WX) (scope : Scope) (elt : Expr) (wi : TI) (g : TG) (vs : List Nat) : L2.St → Hp → Prop := fun σ H => wi σ H fun J H1 => ∀ D, H1 D = none → ∃ Wm : Nat → Nat → Hp → Prop, (∃ m, Wm 0 m (upd H1 D (.lst []))) ∧ ∀ i m H, Wm i m H →
  J.go i H ∧ ∃ Nx : Hp → Prop, (∀ H', Nx H' → ∃ m', m' < m ∧ Wm (i + 1) m' H') ∧ ∀ x H', J.yld i H x H' → g x (wipe σ vs) H' fun σ2 H2 => wipe σ2 vs = wipe σ vs ∧
    BlkP X W scope fun Y => wE Y elt σ2 H2 fun y H4 => ∃ acc, H4 D = some (.lst acc) ∧ acc.length < sizeLine ∧ Nx (upd H4 D (.lst (acc ++ [y])))
/-- the comprehension is entered: its list is new at D, the records of its iterator stand by -/
structure Entered (X : Cx) (pins : List (Addr × Obj)) (σ : L2.St) (H : Hp) (D : Addr) (ids : List Addr) (tn : Nat → Heap → Prop) (u : Shared) : Prop where
  inv : Inv X pins σ (upd H D (.lst [])) u
  rcd : ∀ b ∈ ids, FpOk X pins (upd H D (.lst [])) b
  old : ∀ b ∈ ids, b < u.heap.objs.size
  at0 : tn 0 u.heap
theorem entered {pins : List (Addr × Obj)} {σ : L2.St} {H : Hp} {u : Shared} {tg : Expr} {J : It} {it : Addr} {ids : List Addr} {tn : Nat → Heap → Prop} (I : Inv X pins σ H u) (T : Turn X.prog X.w X.K tg J ids it tn) (z : tn 0 u.heap) (hf : ∀ b ∈ ids, FpOk X pins H b) :
    Entered X pins σ H u.heap.objs.size ids tn { u with heap := u.heap.push { cls := .type "list", data := .seq ([] : List Value).toArray } } where
  inv := I.lnew (t' := u.toks) .nil (Nat.zero_le _)
  rcd := fun b hb => by
    have lt := Heap.lt_size (T.obj _ _ z b hb).choose_spec.1
    exact ⟨(upd_ne (Nat.ne_of_lt lt)).trans (hf b hb).1, (hf b hb).2⟩
  old := fun b hb => by
    show b < (u.heap.push _).objs.size
    rw [Heap.size_push]
    exact Nat.lt_succ_of_lt (Heap.lt_size (T.obj _ _ z b hb).choose_spec.1)
  at0 := T.keep _ _ _ z fun _ _ _ e => Heap.get?_push_of_some _ e
/-- in the block the iterator's records may turn -/
theorem rec_blk {u s' : Shared} {H H' : Hp} {scope : Scope} {ce : Env} {ids : List Addr} {σ : L2.St} (J : Inv (X.blk u H scope ce ids) [] σ H' s') (n : ∀ b ∈ ids, H' b = none) : ∀ b ∈ ids, FpOk (X.blk u H scope ce ids) [] H' b := fun b hb => by
  obtain ⟨l1, l2⟩ := J.ok.exf b hb
  refine ⟨n b hb, l1, J.ok.exfs b hb, Or.inl hb, l2, fun p hp => ?_⟩
  have hp : p ∈ ([] : List (Addr × Obj)) := hp
  cases hp
/-- .. and behind an item of the block they stand as they turned -/
theorem rec_keep {u s5 s' : Shared} {H H' : Hp} {scope : Scope} {ce : Env} {ids : List Addr} {σ : L2.St} (J : Inv (X.blk u H scope ce ids) ([] ++ pinsAt ids s5.heap) σ H' s') : ∀ b ∈ ids, ∀ o, s5.heap.get? b = some o → s'.heap.get? b = some o ∧ H' b = none := fun b hb o e => by
  have m : (b, o) ∈ (X.blk u H scope ce ids).pn ++ ([] ++ pinsAt ids s5.heap) := List.mem_append_right _ (mem_pinsAt hb e)
  exact ⟨(J.pin _ m).1, (J.pin _ m).2.1⟩
theorem we_lx {k : Nat} {elt tg iter : Expr} {scope : Scope} {own : List (Str × Nat)} {pos : Pos} {wi : TI} {g : TG} {σ : L2.St} {H : Hp} {Q : VK} (C : Cok X W k) (hW : ∀ cls d σ σ' H, W cls d σ H → W cls d σ' H) (hst : X.stack = X.env :: X.outer) (hfr : X.env.frame = some X.env.locals)
    (hi : PI X tg iter wi) (ok : BlkOk X.N X.env.scope scope own) (hg : Blk X scope fun Y => PG Y tg g) (hs : ∀ x, foldedSetIterable iter X.env x = pure x) (h : tLx X W scope elt wi g (own.map (·.2)) σ H) :
    wE X (.ListComp elt [⟨tg, iter, [], 0⟩] scope pos) σ H Q := fun pins s I => by
  rw [eval_ListComp]
  have cells : ∀ y ∈ scope.names, y.2 = .free → ∃ c, X.env.cells.lookup y.1 = some c := fun y hy e => (ok.free y hy e).elim (fun k => I.ok.has _ (.inl k)) fun k => I.ok.has _ (.inr k)
  refine comp_ends (g := ⟨tg, iter, [], 0⟩) (gs := []) rfl hs (closure_ok cells) ok.kind (fun y hy e => (ok.uniq y hy).trans (congrArg some e)) (thn (hi.run pins s σ H _ I h) fun _ _ hx => thn hx fun _ u0 hu => ?_)
  obtain ⟨it, ids, tn, J, Hi, rfl, Ii, T, z0, fi, q⟩ := hu
  have En := entered Ii T z0 fi
  refine wpAny_newObj_type (newEnv_comp ?_) (Nat.zero_le sizeLine)
  have free : Hi u0.heap.objs.size = none := Ii.hok.fresh (Nat.le_refl _)
  obtain ⟨Wm, ⟨m0, w0⟩, turn⟩ := q _ free
  generalize u0.heap.objs.size = D at En free w0 turn ⊢
  generalize ({ u0 with heap := u0.heap.push { cls := .type "list", data := .seq ([] : List Value).toArray } } : Shared) = u at En ⊢
  show codeAny _ _ (.compStart (.ListComp elt [⟨tg, iter, [], 0⟩] scope pos) 0 (.ref it) (.ref D) (compEnvC scope (cellsFrom (u.heap.objs.size + 1) scope.names (cloFrom X.env.cells scope.names [])) u.heap.objs.size X.env)) (endsBy (model X.prog X.w) X.A X.xe (compEnvC scope (cellsFrom (u.heap.objs.size + 1) scope.names (cloFrom X.env.cells scope.names [])) u.heap.objs.size X.env)) { u with heap := pushCells (u.heap.push { cls := .type "dict", data := .dict #[] }) scope.names }
  have J0 := block_start En.inv ok C.nd fun b hb => ⟨En.rcd b hb, En.old b hb⟩
  obtain ⟨ce, hce⟩ : ∃ ce, ce = compEnvC scope (cellsFrom (u.heap.objs.size + 1) scope.names (cloFrom X.env.cells scope.names [])) u.heap.objs.size X.env := ⟨_, rfl⟩
  have tgt : PG (X.blk u (upd Hi D (.lst [])) scope ce ids) tg g := by rw [hce]; exact hg _ _ _ _ _
  have item : ∀ p : Cx → Prop, BlkP X W scope p → p (blkW X u (upd Hi D (.lst [])) scope ce ids (notedBy (model X.prog X.w) X.A ce fun e s' => endsBy (model X.prog X.w) X.A X.xe ce (.error e) s')) := fun p hp => by
    rw [hce]
    exact hp _ _ _ _ _ _ (blk_pass C.tk hW hst hfr En.inv En.rcd rfl rfl)
  rw [← hce] at J0
  generalize hv : ({ u with heap := pushCells (u.heap.push { cls := .type "dict", data := .dict #[] }) scope.names } : Shared) = v at J0
  have zv : tn 0 v.heap := T.keep _ _ _ En.at0 fun _ _ _ e => by rw [← hv]; exact pushCells_keeps _ _ _ _ (Heap.get?_push_of_some _ e)
  have go : codeAny (model X.prog X.w) X.A (.compLoop (.ListComp elt [⟨tg, iter, [], 0⟩] scope pos) 0 (.ref it) (.ref D) ce) (endsBy (model X.prog X.w) X.A X.xe ce) v := by
    refine compLoop_any (fun n s' => ∃ i H', Inv (X.blk u (upd Hi D (.lst [])) scope ce ids) [] (wipe σ (own.map (·.2))) H' s' ∧ tn i s'.heap ∧ (∀ b ∈ ids, H' b = none) ∧ Wm i n H') (fun n a ha => ?_) m0 ⟨0, _, J0, zv, fun b hb => (En.rcd b hb).1, w0⟩
    obtain ⟨i, Ha, Ja, za, na, wa⟩ := ha
    obtain ⟨on, Nx, hNx, step⟩ := turn i n Ha wa
    refine thnF (T.item (X.blk u (upd Hi D (.lst [])) scope ce ids) rfl rfl rfl C.calm i [] a _ Ha (fun _ _ => False) Ja (rec_blk Ja na) za on) fun r _ hr => ?_
    obtain ⟨y, rfl, hr⟩ := hr
    refine thnF hr fun _ b hb => ?_
    obtain ⟨x, Hb, Jb, rx, yx, zb, nb⟩ := hb
    refine thnF (tgt.run _ b _ Hb x y _ (Jb.pinned (rec_blk Jb nb) (T.obj _ _ zb)) rx (step x Hb yx)) fun _ c hc => ?_
    obtain ⟨τ, Hc, Jc, hw, qc⟩ := hc
    refine wpAny_tests_nil ?_
    rw [if_pos rfl]
    refine thn (item _ qc _ c (Jc.wish _)) fun _ d hd => ?_
    obtain ⟨yv, Hd, Jd, rd, acc, e1, e2, nx⟩ := hd
    refine app_ok (X := X.blk u (upd Hi D (.lst [])) scope ce ids) Jd.unwish e1 e2 rd fun e Je => ?_
    obtain ⟨m', hm, wn⟩ := hNx _ nx
    have kp := rec_keep Je
    refine ⟨m', hm, i + 1, _, (Je.unpinned (pins := [])).weak ((congrArg List.length hw).symm.trans (wipe_length _ _)) (fun j v e => ?_), T.keep _ _ _ zb fun b hb o e => (kp b hb o e).1, fun b hb => ?_, wn⟩
    · rw [← hw] at e
      exact (wipe_some e).1
    · exact (kp b hb _ (T.obj _ _ zb b hb).choose_spec.1).2
  rw [hce] at go
  have fin := codeAny_compStart_list go (T.self X.A 0 _ _ _ zv go)
  exact fin
end
section
variable {X : Cx} {W : WX} {k : Nat} {e a b c tg iter elt : Expr} {es rest tgs ifs : List Expr} {st : Stmt} {sts body orelse : List Stmt} {s s' s1 s2 s3 : A} {P : Po} {d d' da db dc : D} {r : Res} {ds : List D} {xs ys zs : List D} {pos p2 p apos pos' px : Pos} {x : Str} {β β1 β2 : Bool} {op : CmpOp} {l : List Sl} {scope : Scope} {own : List (Str × Nat)} {ce : Addr}
/-- [elt for x in l], x in slot i, whose item raises at the j0-th -/
theorem je_lcE {α : Type} (i j0 : Nat) (lst : List α) {enc f : α → D} (C : Cok X W k) (hi : JI X (.Name x px) iter s (lst.map enc) s1) (hj : j0 < lst.length)
    (hs : ∀ j a, lst[j]? = some a → j ≤ j0 → BlkP X W scope fun Y => JE Y W elt ⟨s1.sl.set i (.d (enc a)), s1.cl⟩ (if j < j0 then .ok (f a) else .er ce) ⟨s1.sl.set i (.d (enc a)), s1.cl⟩) (hlen : lst.length ≤ sizeLine := by assumption)
    (hW : ∀ cls d σ σ' H, W cls d σ H → W cls d σ' H := by exact fun _ _ _ _ _ h => h) (hst : X.stack = X.env :: X.outer := by rfl) (hfr : X.env.frame = some X.env.locals := by rfl)
    (hblk : blkC X.N X.env.scope scope [(x, i)] = true := by kernel_rfl) (hn : i < s1.sl.length := by exact of_decide_eq_true rfl) (hNi : X.N[i]? = some x := by rfl) (hloc : Blk X scope fun Y => Loc Y.env.scope x := by first | exact fun _ _ _ _ _ => Or.inl rfl | exact fun _ _ _ _ _ => Or.inr rfl) (hfn : Blk X scope fun Y => Y.fn x = true ∨ Y.env.scope.names.lookup x = some .local := by first | exact fun _ _ _ _ _ => .inr rfl | exact fun _ _ _ _ _ => .inl rfl)
    (hsi : ∀ x, foldedSetIterable iter X.env x = pure x := by intro _; rfl) : JE X W (.ListComp elt [⟨.Name x px, iter, [], 0⟩] scope pos) s (.er ce) s1 := fun as B H σ ok Q q => by
  refine we_lx (g := gName i) (own := [(x, i)]) (wi := wI X (.Name x px) iter) C hW hst hfr pi_w (blkOk_by hblk) (fun s0 H0 C0 cl0 fp0 => pg_name C.nd hNi (hloc s0 H0 C0 cl0 fp0) (hfn s0 H0 C0 cl0 fp0)) hsi ?_
  refine hi as B H σ ok _ fun J B1 H1 x1 o1 it => fun Dl hD => ?_
  have hDas : Dl ∉ as := free_lt o1 hD
  have hDB : B1 Dl = none := o1.sm.free hD
  have T : Tgt X.K (gName i) ([(x, i)].map (·.2)) s1.sl.length (updN i) := tgt_name (K := X.K) hn
  refine ⟨fun n m H' => m = lst.length - n ∧ n ≤ j0 ∧ ∃ B', Ext as B1 H1 as B' H' ∧ Ok X.K as B' H' σ s1 ∧ B' Dl = none ∧ ∃ vs : List V, H' Dl = some (.lst vs) ∧ vs.length = n,
    ⟨lst.length, by simp, Nat.zero_le _, B1, (Ext.refl as B1 H1).poke hD, o1.poke hDas hDB, hDB, [], upd_same, rfl⟩, ?_⟩
  rintro n m H' ⟨rfl, hle, B', x2, o2, hB', vs, hv, hvl⟩
  have sm : Same B1 H' := x2.b.trans o2.sm
  have hlt : n < (lst.map enc).length := by rw [List.length_map]; omega
  refine ⟨it.go n H' hlt sm, fun H2 => n < j0 ∧ ∃ B2, Ext as B1 H1 as B2 H2 ∧ Ok X.K as B2 H2 σ s1 ∧ B2 Dl = none ∧ ∃ vs : List V, H2 Dl = some (.lst vs) ∧ vs.length = n + 1, fun H2 ⟨z1, z⟩ => ⟨lst.length - (n + 1), by omega, rfl, z1, z⟩, fun v H2 y => ?_⟩
  obtain ⟨rfl, d, hd', rd⟩ := it.yld n H' v H2 hlt sm y
  rw [List.getElem?_map] at hd'
  cases qa : lst[n]? with
  | none => rw [qa] at hd'; cases hd'
  | some a =>
    rw [qa] at hd'
    have hd' : enc a = d := Option.some.inj hd'
    subst hd'
    have ow := o2.wiped ([(x, i)].map (·.2)) fun v hv => T.lt v hv
    have hu : updN i (enc a) (wipeL s1.sl ([(x, i)].map (·.2))) (s1.sl.set i (.d (enc a))) := by
      show (s1.sl.set i .u).set i (.d (enc a)) = _
      rw [List.set_set]
    refine T.go ow (wipeL_length _ _) (rd.mono x2.b) hu _ fun σ' o3 hw => ⟨hw, ?_⟩
    have back : ∀ {B4 H4 σ4 l4}, Ext as B' H2 as B4 H4 → Ok X.K as B4 H4 σ4 ⟨l4, s1.cl⟩ → Ok X.K as B4 H4 σ s1 := fun {B4 H4 σ4 l4} x o => ⟨o.sm, o.nd, o.ht, o.nb, o.cs, o2.ln, fun i y hy => (o2.sl i y hy).mono x.b ⟨[], by simp⟩⟩
    have hD3 : H2 Dl ≠ none := ne_none hv
    refine fun s0 H0 C0 cl0 fp0 E0 ps => hs n a qa hle s0 H0 C0 cl0 fp0 E0 ps as B' H2 σ' o3 _ ?_
    by_cases hlt2 : n < j0
    · rw [if_pos hlt2]
      intro u B4 H4 x4 o5 r5
      have hB4 : B4 Dl = none := x4.n Dl hB' hD3 hDas
      have hv4 : H4 Dl = some (.lst vs) := x4.k Dl _ hDas hv
      exact ⟨vs, hv4, by omega, hlt2, B4, (x2.trans x4).poke hD, (back x4 o5).poke hDas hB4, hB4, vs ++ [u], upd_same, by rw [List.length_append, hvl]; rfl⟩
    · rw [if_neg hlt2]
      intro B4 H4 x4 o5
      exact hW _ _ _ _ _ (q B4 H4 ((x1.trans x2).trans x4) (back x4 o5))
/-! ### an exception in the midst -/
def JDE (X : Cx) (W : WX) (es : List Expr) (s : A) (c : Addr) (s' : A) : Prop := ∀ as B H σ, Ok X.K as B H σ s → ∀ Q : List V → Hp → Prop, (∀ B' H', Ext as B H as B' H' → Ok X.K as B' H' σ s' → W (.ref c) none σ H') → wA X es σ H Q
theorem jde_here (ha : JE X W e s (.er ce) s1) (hs : starEach (e :: es) X.env = (false, eval e X.env) :: starEach es X.env := by rfl) : JDE X W (e :: es) s ce s1 := fun as B H σ ok Q q => wA_of (pa_cons pe_w pa_w hs) (ha as B H σ ok _ q)
theorem jde_next (ha : JE X WN e s (.ok d) s1) (hr : JDE X W es s1 ce s2) (hs : starEach (e :: es) X.env = (false, eval e X.env) :: starEach es X.env := by rfl) : JDE X W (e :: es) s ce s2 := fun as B H σ ok Q q =>
  wA_of (pa_cons pe_w pa_w hs) (Ok.one ha ok fun x B1 H1 e1 o1 r => hr as B1 H1 σ o1 _ fun B2 H2 e2 o2 => q B2 H2 (e1.trans e2) o2)
theorem je_tupE {j : Nat} (h : JDE X W es s ce s1) : JE X W (.Tuple es j pos) s (.er ce) s1 := fun as B H σ ok Q q => wE_of (pe_tup pa_w) (h as B H σ ok _ q)
/-- x.append(e), e raises -/
theorem js_appE (i j : Nat) (he : JE X W e s (.er ce) s1) (hP : P.ex ce s1) (hi : s.sl[i]? = some (.c j) := by rfl) (hc0 : ∃ zs, s.cl[j]? = some (.lst zs) := by exact ⟨_, rfl⟩) (hN : X.N[i]? = some x := by rfl)
    (hv : Vis X.env.scope x := by first | exact Or.inl rfl | exact Or.inr (Or.inl rfl) | exact Or.inr (Or.inr rfl)) (hd1 : (x == ("__debug__" : Str)) = false := by decide) (hd2 : (x == ("__classdict__" : Str)) = false := by decide)
    (hbase : attributeBase (.Name x p2) "append" X.env (eval (.Name x p2) X.env) = eval (.Name x p2) X.env := by rfl)
    (hfew : ((backTo p (starEach (e :: []) X.env)).all (fun x => !x.1) && (backToKw p (keywordEach [] X.env)).all (fun x => x.1.isSome)
      && decide ((e :: []).length + ([] : List Keyword).length + (if ([] : List Keyword).isEmpty then 0 else 1) < 30)) = true := by rfl)
    (hline : (apos.endLine == p.line) = true := by rfl) (hs : starEach (e :: []) X.env = (false, eval e X.env) :: starEach [] X.env := by rfl) (hplain : (backTo p (starEach [] X.env)).any (·.1) = false := by rfl)
    (hsw : swapsWith (.Call (.Attribute (.Name x p2) "append" apos) [e] [] p) none pos.line X.env = pure false := by rfl) :
    JS X W (.Expr (.Call (.Attribute (.Name x p2) "append" apos) [e] [] p) pos) s P :=
  js_of (ps_expr (pe_bm PySem.F.plainAttrs_list PySem.F.slot_list_append PySem.F.type_list_append mt_append (pe_var hN hv hd1 hd2) (pa_cons pe_w pa_nil hs) hbase hfew hline hs hplain) hsw) fun as B H σ ok Dn f => by
    obtain ⟨a, e1, ha⟩ := cell_of ok hi
    obtain ⟨zs, hz⟩ := hc0
    obtain ⟨us, hu, _⟩ := ok.cs.2 j a _ ha hz
    exact ⟨.ref a, e1, .inl ⟨rfl, _, .inl (.inl hu)⟩, he as B H σ ok _ fun B1 H1 x1 o1 => f.ex as B1 H1 _ _ _ x1 o1 hP⟩
/-- a call, its exceptions passed as told -/
theorem je_callP {n j : Nat} {pre : List D → Res → Prop} (ps : ∀ τ, PassesAt (L2.CX X.prog X.w) X τ (WE W τ)) (hr : Room k X.A) (F : Fn X.prog X.w X.K X.mg X.base x n j pre) (hk : j ≤ k) (ha : JD X (e :: es) s ds s1) (hp : pre ds r) (hg : Gl X x := by rfl) (hdb : (x == ("__debug__" : Str)) = false := by decide) (he : starEach (e :: es) X.env = (false, eval e X.env) :: starEach es X.env := by rfl) (hpl : (backTo pos (starEach es X.env)).any (·.1) = false := by rfl) :
    JE X W (.Call (.Name x p) (e :: es) [] pos) s r s1 := fun as B H σ ok Q q => by
  obtain ⟨f, fd, pl, hn, hf, hm, hkp, hb⟩ := F.ex
  refine wE_of (pe_callS hf (hr.mono hk) hg hm hkp hb ps pa_w hdb he hpl) (ha as B H σ ok _ fun vs B1 H1 x1 o1 r1 => ?_)
  refine ⟨B1, ds, r, o1.sm, r1, hp, ?_⟩
  have up : ∀ {B' H'}, Ext [] B1 H1 [] B' H' → Same B' H' → Ext as B1 H1 as B' H' ∧ Ok X.K as B' H' σ s1 := fun {B' H'} y sm => by
    have sH : Same H1 H' := fun a o e => y.k a o (fun z => nomatch z) e
    exact ⟨⟨y.b, fun a o _ e => sH _ _ e, fun a h1 h2 _ => y.n a h1 h2 (fun z => nomatch z), ⟨[], by simp, fun _ z => nomatch z⟩, y.t⟩,
      ⟨sm, o1.nd, fun a ha => y.t a (o1.ht a ha), fun j a c h1 h2 h3 => y.n a (o1.nb j a c h1 h2 h3) (o1.ht a (List.mem_of_getElem? h1)) (fun z => nomatch z), ⟨o1.cs.1, fun j a c h1 h2 => (o1.cs.2 j a c h1 h2).mono y.b ⟨[], by simp⟩ fun _ u e => sH _ _ e⟩, o1.ln, fun i z hz => (o1.sl i z hz).mono y.b ⟨[], by simp⟩⟩⟩
  cases r with
  | ok d =>
    intro v B' H' y sm rv
    obtain ⟨x2, o2⟩ := up y sm
    exact q v B' H' (x1.trans x2) o2 rv
  | er c =>
    intro B' H' y sm
    obtain ⟨x2, o2⟩ := up y sm
    exact q B' H' (x1.trans x2) o2
end
end DL
set_option Elab.async false
set_option linter.all false
set_option maxRecDepth 100000
set_option maxHeartbeats 4000000
set_option autoImplicit true
/-! DLu: texts by their signs -/
namespace DL
open PySem PySem.Spec PyProof.Rows L2 SX
/-- a text of these code points -/
def eT (a : List Nat) : D := .str (S a)
section
variable {X : Cx} {W : WX} {k : Nat} {e a b c tg iter elt o : Expr} {es rest tgs : List Expr} {s s' s1 s2 s3 : A} {P : Po} {d d' da db dc : D} {ds : List D} {xs ys zs : List D} {pos p2 p apos : Pos} {x : Str} {l : List Sl}
theorem reps_eT {K : PySem.W.Frag} {B : Hp} : ∀ l : List (List Nat), Reps K B ((l.map S).map V.str) (l.map eT)
  | [] => .nil
  | w :: l => .cons (.str _) (reps_eT l)
/-- t.split(c) -/
theorem jf_split {t : List Nat} {c : Nat} (ha : JE X WN o s (.ok (eT t)) s1) (hb : JE X WN e s1 (.ok (eT [c])) s2) (hl : t.length + 2 ≤ sizeLine) (hc : decide (c < 256) = true := by rfl)
    (hs : starEach [e] X.env = [(false, eval e X.env)] := by rfl) (hbase : attributeBase o "split" X.env (eval o X.env) = eval o X.env := by rfl) (hline : (apos.endLine == pos.line) = true := by rfl) :
    JF X (.Call (.Attribute o "split" apos) [e] [] pos) s ((TL.spl [c] 0 [] t).map eT) s2 :=
  jf_of (pe_split pe_w pe_w hs hbase hline) fun as B H σ ok Q q => Ok.one ha ok fun x B1 H1 e1 o1 r1 => by
    cases r1
    refine ⟨⟨_, rfl⟩, Ok.one hb o1 fun y B2 H2 e2 o2 r2 => ?_⟩
    cases r2
    refine ⟨S t, S [c], rfl, rfl, rfl, by rw [S_len]; exact hl, fun p hp => ?_⟩
    rw [split_S (List.cons_ne_nil _ _) (by rw [List.all_cons, hc]; rfl)]
    exact Ok.newF (e1.trans e2) o2 hp (reps_eT _) q
/-- t.join(l) -/
theorem je_join {t : List Nat} {ls : List (List Nat)} (ha : JE X WN o s (.ok (eT t)) s1) (hb : JE X WN e s1 (.ok (.lst (ls.map eT))) s2) (hl : (ls.map (·.length)).sum + ls.length * t.length ≤ 16777216)
    (hs : starEach [e] X.env = [(false, eval e X.env)] := by rfl) (hbase : attributeBase o "join" X.env (eval o X.env) = eval o X.env := by rfl) (hline : (apos.endLine == pos.line) = true := by rfl) :
    JE X W (.Call (.Attribute o "join" apos) [e] [] pos) s (.ok (eT (TL.joinL t ls))) s2 :=
  je_of (pe_join pe_w pe_w hs hbase hline) fun as B H σ ok Q q => Ok.one ha ok fun x B1 H1 e1 o1 r1 => by
    cases r1
    refine ⟨⟨_, rfl⟩, Ok.one hb o1 fun y B2 H2 e2 o2 r2 => ?_⟩
    have e3 : ls.map eT = (ls.map S).map D.str := by rw [List.map_map]; rfl
    rw [e3] at r2
    cases r2 with
    | lst h1 h2 =>
      have z := h2.strs
      subst z
      refine ⟨S t, _, ls.map S, rfl, rfl, .inl (.inl (.inl (o2.sm _ _ h1))), by rw [lens, S_len, List.length_map]; exact hl, ?_⟩
      rw [join_S]
      exact q _ B2 H2 (e1.trans e2) o2 (.str _)
/-- int(t), t of figures -/
theorem je_intT {t : List Nat} (hm : X.mg "int" = none) (ha : JE X W a s (.ok (eT t)) s1) (h : t.all (fun c => decide (48 ≤ c) && decide (c ≤ 57)) = true) (hne : t ≠ []) (hl : t.length ≤ 640) (hg : Gl X "int" := by rfl)
    (he : starEach (a :: []) X.env = (false, eval a X.env) :: starEach [] X.env := by rfl) (hpl : (backTo pos (starEach [] X.env)).any (·.1) = false := by rfl) : JE X W (.Call (.Name "int" p) [a] [] pos) s (.ok (.int (NumText.digitsVal t : Nat))) s1 :=
  je_callT call_int_str ha (fun as B H B1 H1 σ v Q e1 o1 r1 q => by
      cases r1
      exact ⟨S t, _, rfl, int_S h hne (by omega), by rw [S_len]; exact hl, q _ B1 H1 e1 o1 (.int _)⟩) hm (by decide +kernel) hg (by decide) (by decide) he hpl
/-- t[:n], t[n:] -/
theorem je_takeT {t : List Nat} {n : Nat} {hi : Expr} (ha : JE X W a s (.ok (eT t)) s) (hu : JO X (some hi) s (some (n : Nat))) (hz : t.length ≤ sizeLine) : JE X W (.Subscript a (.Slice none (some hi) none p2) pos) s (.ok (eT (t.take n))) s :=
  je_of (pe_slice C8.sl_txt pe_w po_none po_w) fun as B H σ ok Q q => Ok.one ha ok fun x B1 H1 e1 o1 r => hu as B1 H1 σ o1 _ fun B2 H2 e2 o2 => by
    cases r
    refine ⟨S t, rfl, by rw [S_len]; exact hz, ?_⟩
    rw [slice_to (by omega)]
    exact q _ B2 H2 (e1.trans e2) o2 (.str _)
theorem je_dropT {t : List Nat} {n : Nat} {lo : Expr} (ha : JE X W a s (.ok (eT t)) s) (hl : JO X (some lo) s (some (n : Nat))) (hz : t.length ≤ sizeLine) : JE X W (.Subscript a (.Slice (some lo) none none p2) pos) s (.ok (eT (t.drop n))) s :=
  je_of (pe_slice C8.sl_txt pe_w po_w po_none) fun as B H σ ok Q q => Ok.one ha ok fun x B1 H1 e1 o1 r => hl as B1 H1 σ o1 _ fun B2 H2 e2 o2 => by
    cases r
    refine ⟨S t, rfl, by rw [S_len]; exact hz, ?_⟩
    rw [slice_from (by omega)]
    exact q _ B2 H2 (e1.trans e2) o2 (.str _)
/-- for c in t -/
theorem ji_txt {t : List Nat} (h : JE X WN e s (.ok (eT t)) s1) : JI X tg e s (t.map fun c => eT [c]) s1 := fun as B H σ ok R q => wI_of (pi_str pe_w) (Ok.one h ok fun v B1 H1 x1 o1 r1 => by
  cases r1
  have sz : (S t).cps.size = t.length := by show t.toArray.size = _; rw [List.size_toArray]
  refine ⟨S t, rfl, q _ B1 H1 x1 o1 ⟨fun i H' hi sm => ?_, fun H' sm => ?_, fun i H' w H'' hi sm y => ?_⟩⟩
  · rw [List.length_map] at hi
    show i < (S t).cps.size
    omega
  · rw [List.length_map]
    show (S t).cps.size ≤ _
    omega
  · obtain ⟨e1, c, e2, e3⟩ := y
    subst e3
    refine ⟨e1, eT [c], ?_, .str _⟩
    have e2 : t.toArray[i]? = some c := e2
    rw [List.getElem?_toArray] at e2
    rw [List.getElem?_map, e2]
    rfl)
theorem ix_txt {t : List Nat} {i : Nat} (hl : t.length ≤ sizeLine) (h : i < t.length) : IxD (eT t) (.int (i : Nat)) (eT [t.getD i 0]) := by
  refine IxD.str (z := S t) (by rw [S_len]; exact hl) ?_
  show L2.atI t (i : Int) = some _
  exact atI_nat (by rw [List.getD_eq_getElem?_getD, List.getElem?_eq_getElem h]; rfl)
theorem len_txt {t : List Nat} (h : t.length ≤ sizeLine) : LenD (eT t) (t.length : Nat) := by
  have z : LenD (.str (S t)) ((S t).length : Nat) := .str (by rw [S_len]; exact h)
  rw [S_len] at z
  exact z
theorem eq_txt {t u : List Nat} : CmpD .Eq (eT t) (eT u) (decide (t = u)) := by
  have z : CmpD .Eq (.str (S t)) (.str (S u)) (decide (S t = S u)) := .eqS
  have e : decide (S t = S u) = decide (t = u) := by rw [decide_eq_decide]; exact ⟨S_inj, fun h => by rw [h]⟩
  rw [e] at z
  exact z
theorem ne_txt {t u : List Nat} : CmpD .NotEq (eT t) (eT u) (!decide (t = u)) := by
  have z : CmpD .NotEq (.str (S t)) (.str (S u)) (!decide (S t = S u)) := .neS
  have e : decide (S t = S u) = decide (t = u) := by rw [decide_eq_decide]; exact ⟨S_inj, fun h => by rw [h]⟩
  rw [e] at z
  exact z
theorem in_txt {c : Nat} {u : List Nat} : CmpD .In (eT [c]) (eT u) (decide (c ∈ u)) := .inS (c := c) (z := S u)
theorem je_catT {t u : List Nat} (ha : JE X W a s (.ok (eT t)) s1) (hb : JE X W b s1 (.ok (eT u)) s2) (h : t.length + u.length ≤ sizeLine) : JE X W (.BinOp a .Add b pos) s (.ok (eT (t ++ u))) s2 :=
  je_as (je_bin ha hb (.addS (by rw [S_len, S_len]; exact h))) (show D.str (S t ++ S u) = _ by rw [S_cat]; rfl)
/-- str(n) -/
theorem je_strN {n : Nat} (hm : X.mg "str" = none) (ha : JE X W a s (.ok (.int (n : Nat))) s1) (hi : n < 2 ^ 64) (hg : Gl X "str" := by rfl)
    (he : starEach (a :: []) X.env = (false, eval a X.env) :: starEach [] X.env := by rfl) (hpl : (backTo pos (starEach [] X.env)).any (·.1) = false := by rfl) : JE X W (.Call (.Name "str" p) [a] [] pos) s (.ok (eT (TL.numL n))) s1 :=
  je_as (je_strI hm ha (by
    have : ((n : Int)).natAbs.log2 < 64 := by
      by_cases h : n = 0
      · subst h; decide
      · have : ((n : Int)).natAbs = n := Int.natAbs_natCast n
        rw [this]
        exact (Nat.log2_lt h).mpr hi
    omega) hg he hpl) (congrArg D.str (num_S n))
/-- l.extend(e), l a cell -/
theorem js_ext (i j : Nat) {cl : List Cl} (he : JE X WN e s (.ok (.lst ys)) s1) (hlen : xs.length + ys.length ≤ sizeLine) (hP : P.nx ⟨l, cl⟩) (hsl : s1.sl = l := by (first | (dsimp only [List.set, List.length_cons, List.length_nil, List.cons_append, List.nil_append, Nat.reduceAdd]; done) | (dsimp only [List.set, List.length_cons, List.length_nil, List.cons_append, List.nil_append, Nat.reduceAdd]; exact rfl) | exact rfl)) (hi : s.sl[i]? = some (.c j) := by rfl) (hc0 : ∃ zs, s.cl[j]? = some (.lst zs) := by exact ⟨_, rfl⟩) (hc : s1.cl[j]? = some (.lst xs) := by rfl)
    (hcl : s1.cl.set j (.lst (xs ++ ys)) = cl := by (first | (dsimp only [List.set, List.length_cons, List.length_nil, List.cons_append, List.nil_append, Nat.reduceAdd]; done) | (dsimp only [List.set, List.length_cons, List.length_nil, List.cons_append, List.nil_append, Nat.reduceAdd]; exact rfl) | exact rfl)) (hN : X.N[i]? = some x := by rfl)
    (hv : Vis X.env.scope x := by first | exact Or.inl rfl | exact Or.inr (Or.inl rfl) | exact Or.inr (Or.inr rfl)) (hd1 : (x == ("__debug__" : Str)) = false := by decide) (hd2 : (x == ("__classdict__" : Str)) = false := by decide)
    (hbase : attributeBase (.Name x p2) "extend" X.env (eval (.Name x p2) X.env) = eval (.Name x p2) X.env := by rfl)
    (hfew : ((backTo p (starEach (e :: []) X.env)).all (fun x => !x.1) && (backToKw p (keywordEach [] X.env)).all (fun x => x.1.isSome)
      && decide ((e :: []).length + ([] : List Keyword).length + (if ([] : List Keyword).isEmpty then 0 else 1) < 30)) = true := by rfl)
    (hline : (apos.endLine == p.line) = true := by rfl) (hs : starEach (e :: []) X.env = (false, eval e X.env) :: starEach [] X.env := by rfl) (hplain : (backTo p (starEach [] X.env)).any (·.1) = false := by rfl)
    (hsw : swapsWith (.Call (.Attribute (.Name x p2) "extend" apos) [e] [] p) none pos.line X.env = pure false := by rfl) :
    JS X W (.Expr (.Call (.Attribute (.Name x p2) "extend" apos) [e] [] p) pos) s P :=
  js_of (ps_expr (pe_bm PySem.F.plainAttrs_list PySem.F.slot_list_extend PySem.F.type_list_extend mt_extend (pe_var hN hv hd1 hd2) (pa_cons pe_w pa_nil hs) hbase hfew hline hs hplain) hsw) fun as B H σ ok Dn f => by
    obtain ⟨a, e1, ha⟩ := cell_of ok hi
    obtain ⟨zs, hz⟩ := hc0
    obtain ⟨us, hu, _⟩ := ok.cs.2 j a _ ha hz
    refine ⟨.ref a, e1, .inl ⟨rfl, _, .inl (.inl hu)⟩, Ok.one he ok fun v B1 H1 x1 o1 r1 => ?_⟩
    cases r1 with
    | @lst b vs2 _ hb hv2 =>
      obtain ⟨vs, hH, hv⟩ := o1.cs.2 j a _ ha hc
      obtain ⟨o2, x2⟩ := o1.wr (o := .lst (vs ++ vs2)) (c' := .lst (xs ++ ys)) ha hc True.intro ⟨_, upd_same, hv.append hv2⟩
      rw [hcl] at o2
      rw [← hsl] at hP
      exact ⟨a, b, vs, vs2, rfl, rfl, hH, o1.sm _ _ hb, by rw [hv.length, hv2.length]; exact hlen, f.nx as _ _ σ _ (x1.trans x2) o2 hP⟩
end
end DL
set_option Elab.async false
set_option linter.all false
set_option maxRecDepth 100000
set_option maxHeartbeats 4000000
set_option autoImplicit true
/-! DLv: built-in calls over dicts whose keys are tuples of numbers -/
namespace DL
open PySem PySem.Spec PyProof.Rows L2
/-- the hash of a tuple of numbers -/
def nhash (ns : List Int) : Int := reduceHash (Builtin.Tuple.tupleHashOf (ns.map hashInt))
theorem nhash_key {P : Program} {w : World} (ns : List Int) : tupleKeyHash (mixKind P w) (nkey ns) = nhash ns := by
  unfold tupleKeyHash nkey nhash
  rw [List.map_map]
  rfl
section
variable {X : Cx}
theorem call_lenT : CallR X (.builtin "len") (fun xs H Q => ∃ (p : Addr) (kvs : List (List Key × V)), xs = [.ref p] ∧ Rd H p (.dT kvs) ∧ Q (.int ((kvs.length : Nat) : Int)) H) := by
  intro pins s σ H xs us Q I r h
  obtain ⟨p, kvs, rfl, hp, q⟩ := h
  obtain ⟨u, rfl, rx⟩ := vals1 r
  obtain rfl : u = .ref p := rx
  obtain ⟨z, hd, ys, rel, dd⟩ := dt_rd I.hok hp
  have hl : kvs.length = ys.length := Paired.length rel
  refine call_len_dictH hd dd (by rw [← hl]; rw [sizeLine_eq] at z; omega) ?_
  rw [← hl]
  exact ⟨.int ((kvs.length : Nat) : Int), H, I.tok _, ⟨_, rfl⟩, q⟩
theorem KT_keys {H : Hp} : ∀ {kvs : List (List Key × V)} {xs : List (List Key × Addr × Value)}, KT H kvs xs → xs.map (·.1) = kvs.map (·.1) := by
  intro kvs xs h
  induction h with
  | nil => rfl
  | cons h t ih => rw [List.map_cons, List.map_cons, ih, h.1]
/-- dict(d), a copy -/
theorem call_dictT (hu : X.A.units + 64 < cLine) : CallR X (.type "dict") (fun xs H Q => ∃ (a : Addr) (kvs : List (List Key × V)) (nss : List (List Int)), xs = [.ref a] ∧ Rd H a (.dT kvs) ∧ kvs.map (·.1) = nss.map nkey ∧ (nss.map nhash).Nodup ∧ ∀ p, H p = none → Q (.ref p) (upd H p (.dT kvs))) := by
  intro pins s σ H xs us Q I r q
  obtain ⟨a, kvs, nss, rfl, hd, hk, hn, q⟩ := q
  obtain ⟨u, rfl, rx⟩ := vals1 r
  obtain rfl : u = .ref a := rx
  obtain ⟨z, lo, ys, rel, dd⟩ := dt_rd I.hok hd
  have hz : ys.length ≤ sizeLine := by rw [← Paired.length rel]; exact z
  have isT : ∀ {l : List (List Key × V)} {m : List (List Key × Addr × Value)}, KT H l m → ∀ x ∈ m, H x.2.1 = some (.tup (x.1.map kV)) := by
    intro l m h
    induction h with
    | nil => intro x hx; cases hx
    | cons h t ih =>
      intro x hx
      rcases List.mem_cons.mp hx with e | hx
      · rw [e, ← h.1]; exact h.2.1
      · exact ih x hx
  have big := I.big
  have ne : s.heap.objs.size ≠ a := by
    obtain ⟨o, _, _, e, _⟩ := dd
    exact fun z => absurd (Heap.lt_size e) (by rw [z]; exact Nat.lt_irrefl _)
  have tyP : ∀ x ∈ ys, ({ s with heap := s.heap.push { cls := .type "dict", data := .dict #[] } } : Shared).TypeIs (.ref x.2.1) "tuple" := fun x hx => by
    have e := isT rel x hx
    obtain ⟨_, its, _, o, h1, h2, _⟩ := (show ObjOk X.prog X.w H s.heap x.2.1 (.tup (x.1.map kV)) from I.hok _ _ e)
    exact ⟨o, Heap.get?_push_of_some _ h1, h2⟩
  have hap : (ys.map fun x => (tupleKind (mixKind X.prog X.w)).hash x.1).Nodup := by
    have e : (ys.map fun x => (tupleKind (mixKind X.prog X.w)).hash x.1) = nss.map nhash := by
      have e1 : (ys.map fun x => (tupleKind (mixKind X.prog X.w)).hash x.1) = (ys.map (·.1)).map (tupleKeyHash (mixKind X.prog X.w)) := by rw [List.map_map]; rfl
      rw [e1, KT_keys rel, hk, List.map_map]
      exact List.map_congr_left fun ns _ => nhash_key ns
    rw [e]
    exact hn
  have new : (s.heap.push { cls := .type "dict", data := .dict #[] }).DictOfH (tupleKind (mixKind X.prog X.w)) s.heap.objs.size [] := Heap.DictOfH.new s.heap
  have old : (s.heap.push { cls := .type "dict", data := .dict #[] }).DictOfH (tupleKind (mixKind X.prog X.w)) a ys := by
    obtain ⟨o, es, ep, e1, e2, e3, e4, e5, e6⟩ := dd
    refine ⟨o, es, ep, Heap.get?_push_of_some _ e1, e2, e3, e4, fun x hx => ?_, e6⟩
    obtain ⟨o2, its, n2, g1, g2, g3, g4⟩ := e5 x hx
    exact ⟨o2, its, n2, Heap.get?_push_of_some _ g1, g2, g3, g4⟩
  refine callType_codes (Q₁ := fun obj u => obj = .ref s.heap.objs.size ∧ u = { s with heap := s.heap.push { cls := .type "dict", data := .dict #[] } }) F.kt_called_dict (F.kt_typeCall_dict_1 _) F.entry_dict_init (kt_code_dict_new _ ⟨rfl, rfl⟩) ?_
  rintro obj u ⟨rfl, rfl⟩
  refine ⟨new.typeIs, F.args_dict_init_2 _ _, ?_⟩
  unfold Builtin.«dict.__init__»
  refine wpAny_bind ?_
  unfold Builtin.Dict.selfAndRest
  refine wpAny_bind (wpAny_notOrdered_dict new.typeIs ?_)
  show wpAny _ _ (pure (s.heap.objs.size, [Value.ref a])) _ _ _
  refine wpAny_pure ?_
  show wpAny _ _ (Builtin.Dict.updateFrom "dict.__init__" s.heap.objs.size (.ref a) [] .none) _ _ _
  refine updateFrom_dictH (kvs := []) .none (show X.A.in1.in1.units < cLine from ?_) ne lo new old (.inr ⟨tyP, hap⟩) (by simpa using hz) fun h1 d1 _ sb => ?_
  · show X.A.units + 1 + 1 < cLine
    omega
  · rw [storedAllH_nil_of_nodup ys dd.nodup] at d1
    obtain ⟨o1, es1, ep1, e1, e2, e3, e4, _, e6⟩ := d1
    have hp : H s.heap.objs.size = none := I.hok.fresh (Nat.le_refl _)
    have hm : (s.heap.objs.size == sysModules) = false := beq_eq_false_iff_ne.mpr (Nat.ne_of_gt big)
    refine ⟨rfl, .ref s.heap.objs.size, upd H s.heap.objs.size (.dT kvs), I.laid (t' := s.toks) (fun b u e => (sb.2 b (Nat.ne_of_lt (Heap.lt_size e))).trans (Heap.get?_push_of_some _ e)) (Nat.le_refl _) ⟨z, hm, ys, rel.keeps fun b y e => ?_, o1, es1, ep1, e1, e2, e3, e4, e6⟩, rfl, q _ hp⟩
    rw [upd_ne (fun z => by rw [z, hp] at e; cases e)]
    exact e
end
end DL
set_option Elab.async false
set_option linter.all false
set_option maxRecDepth 100000
set_option maxHeartbeats 4000000
set_option autoImplicit true
/-! DLw: the greatest of a list of tuples of numbers; sorted(such a list) -/
namespace DL
open PySem PySem.Spec PyProof.Rows L2
/-- a row of numbers stands before another one -/
def ltI : List Int → List Int → Bool
  | [], [] => false
  | [], _ :: _ => true
  | _ :: _, [] => false
  | x :: xs, y :: ys => if x = y then ltI xs ys else decide (x < y)
theorem ltI_eq : ∀ xs ys : List Int, decide (xs < ys) = ltI xs ys
  | [], [] => by decide
  | [], y :: ys => by rw [ltI, decide_eq_true (List.nil_lt_cons y ys)]
  | x :: xs, [] => by rw [ltI, decide_eq_false (List.not_lt_nil _)]
  | x :: xs, y :: ys => by
    rw [ltI, ← ltI_eq xs ys]
    by_cases e : x = y
    · subst e
      rw [if_pos rfl, decide_eq_decide, List.cons_lt_cons_iff]
      exact ⟨fun h => h.elim (fun z => absurd z (Int.lt_irrefl _)) (·.2), fun h => .inr ⟨rfl, h⟩⟩
    · rw [if_neg e, decide_eq_decide, List.cons_lt_cons_iff]
      exact ⟨fun h => h.elim id fun z => absurd z.1 e, .inl⟩
def maxL (x : List Int) (xs : List (List Int)) : List Int := xs.foldl (fun a y => if ltI a y = true then y else a) x
def dI (ns : List Int) : PyData := .tuple (ns.map .int)
theorem lt_dI (x y : List Int) : PySem.W.dataLt (dI x) (dI y) = ltI x y := by
  unfold dI
  rw [PySem.W.dataLt_tuple]
  show PySem.W.rowLt (x.map .int) (y.map .int) = _
  rw [PySem.W.dataLt_ints, ltI_eq]
theorem maxD_dI (x : List Int) : ∀ xs : List (List Int), PySem.W.maxD (dI x) (xs.map dI) = dI (maxL x xs) := by
  intro xs
  unfold PySem.W.maxD maxL
  induction xs generalizing x with
  | nil => rfl
  | cons y r ih =>
    rw [List.map_cons, List.foldl_cons, List.foldl_cons, lt_dI]
    by_cases h : ltI x y = true
    · rw [if_pos h, if_pos h]; exact ih y
    · rw [if_neg h, if_neg h]; exact ih x
theorem dI_inj {x y : List Int} (h : dI x = dI y) : x = y := by
  have h : x.map PyData.int = y.map PyData.int := by injection h
  have inj : ∀ {a b : List Int}, a.map PyData.int = b.map PyData.int → a = b := by
    intro a
    induction a with
    | nil => intro b h; cases b with
      | nil => rfl
      | cons _ _ => simp at h
    | cons i a ih => intro b h; cases b with
      | nil => simp at h
      | cons j b =>
        rw [List.map_cons, List.map_cons] at h
        injection h with h1 h2
        injection h1 with h1
        rw [h1, ih h2]
  exact inj h
theorem alike_dI (x y : List Int) : PySem.W.alike (dI x) (dI y) = true := by
  unfold dI
  rw [PySem.W.alike]
  exact PySem.W.alike_ints x y
theorem alikeAll_dI (ls : List (List Int)) : PySem.W.AlikeAll (ls.map dI) := by
  refine ⟨fun x hx y hy => ?_, fun x hx => ?_⟩
  · obtain ⟨a, _, rfl⟩ := List.mem_map.mp hx
    obtain ⟨b, _, rfl⟩ := List.mem_map.mp hy
    exact alike_dI a b
  · obtain ⟨a, _, rfl⟩ := List.mem_map.mp hx
    exact fun z => nomatch z
theorem depth_dI (x : List Int) : (dI x).depth = 1 := by
  unfold dI
  rw [PyData.depth, depth_ints]
theorem depthAll_dI : ∀ ls : List (List Int), PyData.depthAll (ls.map dI) ≤ 1
  | [] => Nat.zero_le _
  | x :: r => by
    rw [List.map_cons, PyData.depthAll, depth_dI]
    exact Nat.max_le.mpr ⟨Nat.le_refl _, depthAll_dI r⟩
section
variable {K : PySem.W.Frag} {H : Hp}
theorem dp_dI {q : Addr} {ns : List Int} (h : SqT K H q (ns.map V.int)) : Dp K H (.ref q) (dI ns) := .tup h (dp_ints ns)
theorem dpAll_dI : ∀ {ks : List (Addr × List Int)}, (∀ p ∈ ks, SqT K H p.1 (p.2.map V.int)) → DpAll K H (ks.map fun p => V.ref p.1) ((ks.map (·.2)).map dI)
  | [], _ => .nil
  | p :: r, h => .cons (dp_dI (h p List.mem_cons_self)) (dpAll_dI fun q hq => h q (List.mem_cons_of_mem _ hq))
end
theorem vals_refs {α : Type} (f : α → Addr) : ∀ {l : List α} {us : List Value}, Vals (l.map fun x => V.ref (f x)) us → us = l.map fun x => Value.ref (f x)
  | [], _, h => by cases h; rfl
  | x :: r, _, h => by
    rw [List.map_cons] at h
    cases h with
    | cons h1 h2 =>
      cases h1
      rw [vals_refs f h2, List.map_cons]
section
variable {X : Cx}
/-- max(xs), xs a list of tuples of numbers -/
theorem cr_maxR (hc : X.calm = true) (hu : X.A.units + 64 < cLine) : CallR X (.builtin "max") (fun vs H Q => ∃ (a : Addr) (ks : List (Addr × List Int)) (x : List Int) (xs : List (List Int)), vs = [V.ref a] ∧ SqL X.K H a (ks.map fun p => V.ref p.1) ∧ (∀ p ∈ ks, SqT X.K H p.1 (p.2.map V.int)) ∧ ks.map (·.2) = x :: xs ∧ ∀ p ∈ ks, p.2 = maxL x xs → Q (.ref p.1) H) := by
  intro pins s σ H vs us Q I r ⟨a, ks, x, xs, ev, hs, ht, hx, q⟩
  subst ev
  obtain ⟨its, rv, hl, _⟩ := I.list hs
  rw [Vals.ref1 r]
  have ei := vals_refs (fun p : Addr × List Int => p.1) rv
  subst ei
  have dp := dpAll_dI ht
  obtain ⟨as, hr⟩ := Dp.readsAll I _ _ _ dp rv
  rw [hx, List.map_cons] at hr
  refine PySem.W.max_list_data (I.ok.hd hc) hl.isList hr (by rw [← List.map_cons]; exact alikeAll_dI _) (by
    have := depthAll_dI (x :: xs)
    rw [List.map_cons] at this
    omega) fun i v h' tk bs hv hread k => ?_
  rw [maxD_dI] at hread
  have I' : Inv X pins σ H { s with heap := h', toks := tk } := I.kept (t' := tk) k
  rw [List.getElem?_toArray, List.getElem?_map] at hv
  cases e : ks[i]? with
  | none => rw [e] at hv; cases hv
  | some p =>
    rw [e] at hv
    have hv : Value.ref p.1 = v := Option.some.inj hv
    subst hv
    have hp : p ∈ ks := List.mem_of_getElem? e
    obtain ⟨as2, r2⟩ := Dp.reads I' _ _ _ (dp_dI (ht p hp)) (show RelV (V.ref p.1) (Value.ref p.1) from rfl)
    have ed := (PySem.Reads.unique r2 _ _ hread).1
    exact ⟨.ref p.1, H, I', rfl, q p hp (dI_inj ed)⟩
/-- sorted(xs), xs a list of tuples of numbers, of one at least each -/
theorem cr_sortedR (hu : X.A.units + 64 < cLine) : CallR X (.builtin "sorted") (fun vs H Q => ∃ (a : Addr) (ks : List (Addr × List Int)), vs = [V.ref a] ∧ SqL X.K H a (ks.map fun p => V.ref p.1) ∧ (∀ p ∈ ks, SqT X.K H p.1 (p.2.map V.int)) ∧ (∀ p ∈ ks, p.2 ≠ []) ∧
    ∀ (ms : List (Addr × List Int)) (p : Addr), ms.Perm ks → (ms.map (·.2)).Pairwise (fun x y => ltI y x = false) → H p = none → Q (.ref p) (upd H p (.lst (ms.map fun z => V.ref z.1)))) := by
  intro pins s σ H vs us Q I r ⟨a, ks, ev, hs, ht, hne, q⟩
  subst ev
  obtain ⟨its, rv, hl, hz⟩ := I.list hs
  rw [Vals.ref1 r]
  have ei := vals_refs (fun p : Addr × List Int => p.1) rv
  subst ei
  have each : ∀ l : List (Addr × List Int), (∀ p ∈ l, SqT X.K H p.1 (p.2.map V.int)) → PySem.W.EachIs (fun v p => v = Value.ref p.1) (l.map fun p => Value.ref p.1) l ∧ PySem.W.EachIs (fun v (p : Addr × List Int) => ∃ as, Reads s.heap v (dI p.2) as) (l.map fun p => Value.ref p.1) l := by
    intro l
    induction l with
    | nil => intro _; exact ⟨.nil, .nil⟩
    | cons p l ih =>
      intro h
      obtain ⟨i1, i2⟩ := ih fun q hq => h q (List.mem_cons_of_mem _ hq)
      exact ⟨.cons rfl i1, .cons (Dp.reads I _ _ _ (dp_dI (h p List.mem_cons_self)) (show RelV (V.ref p.1) (Value.ref p.1) from rfl)) i2⟩
  obtain ⟨e1, e2⟩ := each ks ht
  refine PySem.W.sorted_data (β := Addr × List Int) (enc := fun p => dI p.2) hl.isList e1 e2 (fun d hd d' hd' => ?_) (.inl fun d hd => ?_) (by rw [← List.length_map (as := ks) (f := fun p => V.ref p.1)]; exact hz) (fun p _ => by rw [depth_dI]; omega) fun out ho hout => ?_
  · obtain ⟨p, _, rfl⟩ := List.mem_map.mp hd
    obtain ⟨p', _, rfl⟩ := List.mem_map.mp hd'
    exact alike_dI _ _
  · obtain ⟨p, hp, rfl⟩ := List.mem_map.mp hd
    cases e : p.2 with
    | nil => exact absurd e (hne p hp)
    | cons i r => exact ⟨.int i, r.map .int, rfl⟩
  have eo : out = (ks.mergeSort (PySem.W.dataLe false fun p : Addr × List Int => dI p.2)).map fun p => Value.ref p.1 := by
    have go : ∀ {o : List Value} {l : List (Addr × List Int)}, PySem.W.EachIs (fun v p => v = Value.ref p.1) o l → o = l.map fun p => Value.ref p.1 := by
      intro o l h
      induction h with
      | nil => rfl
      | cons h1 _ ih => rw [List.map_cons, h1, ih]
    exact go hout
  subst eo
  have hle : (PySem.W.dataLe false fun p : Addr × List Int => dI p.2) = fun p q => !ltI q.2 p.2 := by
    funext p q
    show (!PySem.W.dataLt (dI q.2) (dI p.2)) = _
    rw [lt_dI]
  rw [hle]
  have hp : (ks.mergeSort fun p q => !ltI q.2 p.2).Perm ks := List.mergeSort_perm _ _
  have hpw : ((ks.mergeSort fun p q => !ltI q.2 p.2).map (·.2)).Pairwise (fun x y => ltI y x = false) := by
    rw [List.pairwise_map]
    have := List.pairwise_mergeSort (le := fun p q : Addr × List Int => !ltI q.2 p.2) (fun a b c h1 h2 => ?_) (fun a b => ?_) ks
    · exact this.imp fun h => by simpa using h
    · rw [← ltI_eq, Bool.not_eq_true', decide_eq_false_iff_not] at h1 h2 ⊢
      exact List.le_trans (l₁ := a.2) (l₂ := b.2) (l₃ := c.2) h1 h2
    · rw [← ltI_eq, ← ltI_eq, Bool.or_eq_true, Bool.not_eq_true', Bool.not_eq_true', decide_eq_false_iff_not, decide_eq_false_iff_not]
      exact List.le_total a.2 b.2
  generalize ks.mergeSort (fun p q => !ltI q.2 p.2) = ms at *
  obtain ⟨ep, he⟩ := PyProof.Rows.sortedAll_at s.heap (ks.map fun p => Value.ref p.1) (ms.map fun p => Value.ref p.1).toArray
  have hlen : (ms.map fun z => V.ref z.1).length ≤ sizeLine := by
    rw [List.length_map, hp.length_eq, ← List.length_map (as := ks) (f := fun p => V.ref p.1)]
    exact hz
  have hv : Vals (ms.map fun z => V.ref z.1) (ms.map fun p => Value.ref p.1) := by
    have go : ∀ l : List (Addr × List Int), Vals (l.map fun z => V.ref z.1) (l.map fun p => Value.ref p.1) := by
      intro l
      induction l with
      | nil => exact .nil
      | cons p l ih => exact .cons (show RelV (V.ref p.1) (Value.ref p.1) from rfl) ih
    exact go ms
  exact ⟨.ref _, upd H (s.heap.objs.size + 1) (.lst (ms.map fun z => V.ref z.1)), I.laid (t' := s.toks) (fun _ _ => PyProof.Rows.sortedAll_old) (Nat.le_succ _) ⟨hlen, _, ep, hv, he⟩, rfl, q ms _ hp hpw (I.hok.fresh (Nat.le_succ _))⟩
end
end DL
set_option Elab.async false
set_option linter.all false
set_option maxRecDepth 100000
set_option maxHeartbeats 4000000
set_option autoImplicit true
/-! DLx: dicts of pairs of numbers as values -/
namespace DL
open PySem PySem.Spec PyProof.Rows L2
abbrev Dc := List (List Int × Int)
def eDc (d : Dc) : List (List Key × Int) := d.map fun p => (nkey p.1, p.2)
def vDc (d : Dc) : List (List Key × V) := d.map fun p => (nkey p.1, V.int p.2)
def cDc (d : Dc) : List (List Key × D) := d.map fun p => (nkey p.1, D.int p.2)
def kGet (d : Dc) (k : List Int) : Option Int := (d.find? fun p => decide (p.1 = k)).map (·.2)
def kPut (d : Dc) (k : List Int) (v : Int) : Dc := if (d.any fun p => decide (p.1 = k)) = true then d.map (fun p => if p.1 = k then (p.1, v) else p) else d ++ [(k, v)]
theorem nkey_inj : ∀ {a b : List Int}, nkey a = nkey b → a = b
  | [], [], _ => rfl
  | [], _ :: _, h => by simp [nkey] at h
  | _ :: _, [], h => by simp [nkey] at h
  | x :: a, y :: b, h => by
    unfold nkey at h
    rw [List.map_cons, List.map_cons] at h
    injection h with h1 h2
    injection h1 with h1
    rw [h1, nkey_inj h2]
theorem nkey_iff {a b : List Int} : nkey a = nkey b ↔ a = b := ⟨nkey_inj, fun h => h ▸ rfl⟩
theorem vDc_eq (d : Dc) : (eDc d).map (fun p => (p.1, V.int p.2)) = vDc d := by unfold eDc vDc; rw [List.map_map]; rfl
theorem find_gen {α : Type} (f : Int → α) (k : List Int) : ∀ d : Dc, ((d.map fun p => (nkey p.1, f p.2)).find? fun kv => decide (kv.1 = nkey k)).map (·.2) = ((d.find? fun p => decide (p.1 = k)).map (·.2)).map f
  | [] => rfl
  | p :: d => by
    rw [List.map_cons, List.find?_cons, List.find?_cons]
    by_cases e : p.1 = k
    · have e2 : nkey p.1 = nkey k := nkey_iff.mpr e
      simp only [e, e2, decide_true, Option.map_some]
    · have e2 : ¬ nkey p.1 = nkey k := fun z => e (nkey_inj z)
      simp only [e, e2, decide_false]
      exact find_gen f k d
theorem val_v (d : Dc) (k : List Int) : valV (vDc d) (nkey k) = (kGet d k).map V.int := find_gen V.int k d
theorem val_c (d : Dc) (k : List Int) : dval (cDc d) (nkey k) = (kGet d k).map D.int := find_gen D.int k d
theorem any_gen {α : Type} (f : Int → α) (k : List Int) (d : Dc) : ((d.map fun p => (nkey p.1, f p.2)).any fun kv => decide (kv.1 = nkey k)) = d.any fun p => decide (p.1 = k) := by
  rw [List.any_map]
  congr 1
  funext p
  exact decide_eq_decide.mpr nkey_iff
theorem put_gen {α : Type} (f : Int → α) (k : List Int) (v : Int) (d : Dc) : (if ((d.map fun p => (nkey p.1, f p.2)).any fun kv => decide (kv.1 = nkey k)) = true then (d.map fun p => (nkey p.1, f p.2)).map (fun kv => if kv.1 = nkey k then (kv.1, f v) else kv) else (d.map fun p => (nkey p.1, f p.2)) ++ [(nkey k, f v)]) = (kPut d k v).map fun p => (nkey p.1, f p.2) := by
  rw [any_gen]
  unfold kPut
  split
  · rw [List.map_map, List.map_map]
    refine List.map_congr_left fun p _ => ?_
    show (if nkey p.1 = nkey k then (nkey p.1, f v) else (nkey p.1, f p.2)) = _
    by_cases e : p.1 = k
    · rw [if_pos (nkey_iff.mpr e)]
      show _ = (nkey (if p.1 = k then (p.1, v) else p).1, f (if p.1 = k then (p.1, v) else p).2)
      rw [if_pos e]
    · rw [if_neg fun z => e (nkey_inj z)]
      show _ = (nkey (if p.1 = k then (p.1, v) else p).1, f (if p.1 = k then (p.1, v) else p).2)
      rw [if_neg e]
  · rw [List.map_append]
    rfl
theorem put_v (d : Dc) (k : List Int) (v : Int) : putK (vDc d) (nkey k) (V.int v) = vDc (kPut d k v) := put_gen V.int k v d
theorem put_c (d : Dc) (k : List Int) (v : Int) : dput (cDc d) (nkey k) (D.int v) = cDc (kPut d k v) := put_gen D.int k v d
theorem cell_v {K : PySem.W.Frag} {B : Hp} : ∀ {d : Dc} {us : List (List Key × V)}, us.map (·.1) = (cDc d).map (·.1) → Reps K B (us.map (·.2)) ((cDc d).map (·.2)) → us = vDc d
  | [], [], _, _ => rfl
  | [], _ :: _, h, _ => by simp [cDc] at h
  | _ :: _, [], h, _ => by simp [cDc] at h
  | p :: d, u :: us, h, r => by
    unfold cDc at h r
    rw [List.map_cons, List.map_cons, List.map_cons] at h
    rw [List.map_cons, List.map_cons, List.map_cons] at r
    injection h with h1 h2
    cases r with
    | cons r1 r2 =>
      have ih := cell_v (d := d) (us := us) h2 r2
      rw [ih]
      obtain ⟨u1, u2⟩ := u
      have h1 : u1 = nkey p.1 := h1
      subst h1
      have e : u2 = V.int p.2 := by
        have r1 : Rep K B u2 (.int p.2) := r1
        cases r1
        rfl
      subst e
      rfl
/-- a known thing is spoken of -/
theorem Ok.known {K : PySem.W.Frag} {as : List Addr} {B H : Hp} {σ : L2.St} {s : A} {a : Addr} {j : Nat} {o : HO} (h : Ok K as B H σ s) (h1 : as[j]? = some a) (h2 : s.cl[j]? = some .dead) (hB : B a = Option.none) (ho : H a = some o) : Ok K as (upd B a o) H σ s ∧ Ext as B H as (upd B a o) H := by
  have ha := List.mem_of_getElem? h1
  have sB : Same B (upd B a o) := same_upd' hB
  refine ⟨⟨fun b u e => ?_, h.nd, h.ht, fun i b d e1 e2 e3 => ?_, ⟨h.cs.1, fun i b d e1 e2 => (h.cs.2 i b d e1 e2).mono sB ⟨[], by simp⟩ fun _ u q => q⟩, h.ln, fun i x hx => (h.sl i x hx).mono sB ⟨[], by simp⟩⟩,
    ⟨sB, fun b u hb e => e, fun b e1 _ e3 => by rw [upd_ne (fun z => e3 (by rw [z]; exact ha))]; exact e1, ⟨[], by simp, fun _ z => nomatch z⟩, fun b hb => hb⟩⟩
  · by_cases e1 : b = a
    · rw [e1, upd_same] at e; cases e; rw [e1]; exact ho
    · rw [upd_ne e1] at e; exact h.sm _ _ e
  · by_cases e : i = j
    · subst e
      rw [h2] at e2; cases e2
      exact e3.elim
    · rw [upd_ne (fun z => e (nd_ix h.nd e1 (by rw [z]; exact h1)))]
      exact h.nb i b d e1 e2 e3
section
variable {X : Cx} {W : WX} {k : Nat} {e a b c iter elt : Expr} {es ifs : List Expr} {sts : List Stmt} {s s' s1 s2 s3 : A} {P : Po} {da db : D} {r : Res} {d : Dc} {ds : List D} {xs ys : List D} {pos p2 p p3 apos pos' py px pp : Pos} {x y : Str} {β : Bool} {l : List Sl} {cl : List Cl} {ns : List Int} {v z : Int} {q : Nat} {scope : Scope}
/-- the dict i is a value from now on -/
theorem jb_lockD (i j : Nat) (d : Dc) (h : JB X W sts ⟨l, cl⟩ P) (hi : s.sl[i]? = some (.c j) := by rfl) (hc : s.cl[j]? = some (.dic (cDc d)) := by rfl) (hl : s.sl.set i (.d (.dct (eDc d))) = l := by rfl) (hcl : s.cl.set j .dead = cl := by rfl) : JB X W sts s P := fun as B H σ ok Dn f => by
  intro pins s0 I
  obtain ⟨a, v1, ha⟩ := cell_of ok hi
  obtain ⟨us, hu, hks, hvs⟩ := ok.cs.2 j a _ ha hc
  have eu := cell_v hks hvs
  subst eu
  have hB := ok.nb j a _ ha hc True.intro
  obtain ⟨od, I'⟩ := I.lock hu True.intro
  obtain ⟨o1, x1⟩ := ok.wr (o := .frz od (.dT (vDc d))) (c' := .dead) ha hc True.intro True.intro
  have hj : j < s.cl.length := (List.getElem?_eq_some_iff.mp hc).1
  obtain ⟨o2, x2⟩ := o1.known (o := .frz od (.dT (vDc d))) ha (by dsimp only; rw [List.getElem?_set_self hj]) hB upd_same
  have o3 := o2.tell (i := i) (x := .d (.dct (eDc d))) ⟨.ref a, by rw [v1]; rfl, .dct (o := od) (by rw [vDc_eq]; exact upd_same)⟩
  dsimp only at o3
  rw [hl, hcl] at o3
  exact h as _ _ σ o3 Dn (f.on (x1.trans x2)) pins s0 I'
/-- {}, a value -/
theorem je_dct0 : JE X W (.Dict [] [] pos) s (.ok (.dct [])) s := fun as B H σ ok Q q => fun pins s0 I => by
  refine thn (pe_dnewT.run pins s0 σ H (fun v H' => ∃ p, v = .ref p ∧ H p = none ∧ H' = upd H p (.dT [])) I fun p hp => ⟨p, rfl, hp, rfl⟩) fun u s1 ⟨v, H', I', rv, p, ev, hp, eh⟩ => ?_
  subst ev eh
  obtain ⟨od, I2⟩ := I'.lock (d := p) (u := .dT []) upd_same True.intro
  have e2 : upd (upd H p (.dT [])) p (.frz od (.dT [])) = upd H p (.frz od (.dT [])) := by
    funext b
    by_cases e : b = p
    · rw [e, upd_same, upd_same]
    · rw [upd_ne e, upd_ne e, upd_ne e]
  rw [e2] at I2
  obtain ⟨o1, x1⟩ := ok.new (o := .frz od (.dT [])) hp
  exact ⟨.ref p, _, I2, rv, q _ _ _ x1 o1 (.dct (o := od) (kvs := []) upd_same)⟩
theorem je_lenD {kvs : List (List Key × Int)} (hm : X.mg "len" = none) (ha : JE X W a s (.ok (.dct kvs)) s1) (hg : Gl X "len" := by rfl)
    (he : starEach (a :: []) X.env = (false, eval a X.env) :: starEach [] X.env := by rfl) (hpl : (backTo pos (starEach [] X.env)).any (·.1) = false := by rfl) : JE X W (.Call (.Name "len" p) [a] [] pos) s (.ok (.int kvs.length)) s1 :=
  je_call1 call_lenT ha (fun as B H B1 H1 σ v Q e1 o1 r1 q => by
      cases r1 with
      | @dct _ o _ h => exact ⟨_, _, rfl, .inr ⟨o, o1.sm _ _ h⟩, by rw [List.length_map]; exact q _ B1 H1 e1 o1 (.int _)⟩) hm PySem.boot_len hg (by decide) (by decide) he hpl
/-- how a dict that is a value is read -/
theorem dct_rd {K : PySem.W.Frag} {B H : Hp} {w : V} (sm : Same B H) (h : Rep K B w (.dct (eDc d))) : ∃ a, w = .ref a ∧ Rd H a (.dT (vDc d)) := by
  cases h with
  | @dct a o _ h => exact ⟨a, rfl, .inr ⟨o, by rw [← vDc_eq]; exact sm _ _ h⟩⟩
/-- e[(..)], e such a dict -/
theorem je_dgetV {V0 : WX} (C : Cok X V0 k) (ha : JE X W a s (.ok (.dct (eDc d))) s) (h : JD X es s (ns.map .int) s1) (hg : kGet d ns = some v) (hlen : ns.length ≤ sizeLine := by exact Nat.le_of_ble_eq_true rfl) (hno : NoSl (.Tuple es q p2) := by first | exact fun _ _ => rfl | (intro _ _; rfl)) : JE X W (.Subscript a (.Tuple es q p2) pos) s (.ok (.int v)) s1 :=
  je_of (pe_dget C.u1 pe_w (pe_tup pa_w) hno) fun as B H σ ok Q qq => Ok.one ha ok fun w B0 H0 e0 o0 r0 => h as B0 H0 σ o0 _ fun vs B1 H1 e1 o1 r => by
    have ln := r.length
    rw [List.length_map] at ln
    refine ⟨by omega, fun b hb => ?_⟩
    obtain ⟨o2, e2, hkey⟩ := key_new o1 r hb
    obtain ⟨a0, rfl, rd⟩ := dct_rd o2.sm ((r0.mono e1.b).mono e2.b)
    exact ⟨a0, .int v, rfl, .inr ⟨_, _, b, rd, rfl, hkey, by rw [val_v, hg]; rfl⟩, qq _ _ _ ((e0.trans e1).trans e2) o2 (.int _)⟩
/-- e[t], t a tuple in the heap -/
theorem je_dgetK {V0 : WX} (C : Cok X V0 k) (ha : JE X W a s (.ok (.dct (eDc d))) s) (h : JE X W b s (.ok (.ky ns)) s1) (hg : kGet d ns = some v) (hno : NoSl b := by first | exact fun _ _ => rfl | (intro _ _; rfl)) : JE X W (.Subscript a b pos) s (.ok (.int v)) s1 :=
  je_of (pe_dget C.u1 pe_w pe_w hno) fun as B H σ ok Q qq => Ok.two ha h ok fun w y B1 H1 e1 o1 r0 r1 => by
    obtain ⟨a0, rfl, rd⟩ := dct_rd o1.sm r0
    cases r1 with
    | @ky b0 _ hb =>
      have hkey := o1.sm _ _ hb
      rw [← nkey_kV] at hkey
      exact ⟨a0, .int v, rfl, .inr ⟨_, _, b0, rd, rfl, hkey, by rw [val_v, hg]; rfl⟩, qq _ _ _ e1 o1 (.int _)⟩
/-- (..) not in e -/
theorem jt_dninV (C : Cok X W k) (h : JD X es s (ns.map .int) s) (ha : JE X WN (.Name x p) s (.ok (.dct (eDc d))) s) (hlen : ns.length ≤ sizeLine := by exact Nat.le_of_ble_eq_true rfl)
    (hm : behindInMarks .NotIn (.Name x p) = false := by first | exact nobehind _ (by decide) (by decide) | rfl) : JT X (.Compare (.Tuple es q p2) [.NotIn] [.Name x p] pos) s (!(kGet d ns).isSome) :=
  jt_of (pt_cmp (pc_dnotin C.u1 (pe_tup pa_w) pe_w) hm) fun as B H σ ok Q qq => h as B H σ ok _ fun vs B1 H1 e1 o1 r => by
    have ln := r.length
    rw [List.length_map] at ln
    refine ⟨by omega, fun b hb => ?_⟩
    obtain ⟨o2, e2, hkey⟩ := key_new o1 r hb
    refine Ok.one ha o2 fun w B3 H3 e3 o3 r3 => ?_
    obtain ⟨a0, rfl, rd⟩ := dct_rd o3.sm r3
    refine ⟨a0, valV (vDc d) (nkey ns), rfl, .inr ⟨_, _, b, rd, rfl, o3.sm _ _ (e3.b _ _ (by rw [upd_same, nkey_kV, r.ints])), rfl⟩, _, rfl, ?_⟩
    rw [val_v, Option.isSome_map]
    exact qq _ _ ((e1.trans e2).trans e3) o3
/-- d[t] = e, d a cell, t a tuple in the heap -/
theorem js_dputK (i j : Nat) (d : Dc) (C : Cok X W k) (he : JE X WN e s (.ok (.int v)) s1) (h : JE X WN b s1 (.ok (.ky ns)) s2) (hm : d.length < sizeLine) (hP : P.nx ⟨l, cl⟩) (hsl : s2.sl = l := by rfl)
    (hi : s1.sl[i]? = some (.c j) := by rfl) (hc : s2.cl[j]? = some (.dic (cDc d)) := by rfl) (hcl : s2.cl.set j (.dic (cDc (kPut d ns v))) = cl := by rfl) (hN : X.N[i]? = some x := by rfl)
    (hv : Vis X.env.scope x := by first | exact Or.inl rfl | exact Or.inr (Or.inl rfl) | exact Or.inr (Or.inr rfl)) (hd1 : (x == ("__debug__" : Str)) = false := by decide) (hd2 : (x == ("__classdict__" : Str)) = false := by decide)
    (hs : swapsWith e (some (.Subscript (.Name x p) b pos')) pos.line X.env = pure false := by rfl) : JS X W (.Assign [.Subscript (.Name x p) b pos'] e pos) s P :=
  js_of (ps_dput C.u1 (pe_var hN hv hd1 hd2) pe_w pe_w hs) fun as B H σ ok Dn f => Ok.one he ok fun w B1 H1 x1 o1 r1 => by
    obtain ⟨a, v1, ha⟩ := cell_of o1 hi
    refine ⟨.ref a, v1, Ok.one h o1 fun y B2 H2 x2 o2 r2 => ?_⟩
    obtain ⟨us, hu, hks, hvs⟩ := o2.cs.2 j a _ ha hc
    have eu := cell_v hks hvs
    subst eu
    cases r1
    cases r2 with
    | @ky b0 _ hb =>
      have hkey := o2.sm _ _ hb
      rw [← nkey_kV] at hkey
      obtain ⟨o4, x4⟩ := o2.wr (o := .dT (vDc (kPut d ns v))) (c' := .dic (cDc (kPut d ns v))) ha hc True.intro ⟨_, upd_same, by unfold vDc cDc; rw [List.map_map, List.map_map]; rfl, by
        have e1 : (vDc (kPut d ns v)).map (·.2) = ((kPut d ns v).map (·.2)).map V.int := by unfold vDc; rw [List.map_map, List.map_map]; rfl
        have e2 : (cDc (kPut d ns v)).map (·.2) = ((kPut d ns v).map (·.2)).map D.int := by unfold cDc; rw [List.map_map, List.map_map]; rfl
        rw [e1, e2]
        exact Reps.of_ints _⟩
      rw [hcl] at o4
      rw [← hsl] at hP
      refine ⟨a, _, rfl, .inr ⟨_, _, b0, hu, rfl, hkey, by unfold vDc; rw [List.length_map]; exact hm, rfl⟩, ?_⟩
      rw [put_v]
      exact f.nx as _ _ σ _ ((x1.trans x2).trans x4) o4 hP
/-- d.get(t, e), d a cell -/
theorem je_getK (i j : Nat) (d : Dc) {V0 : WX} (C : Cok X V0 k) (h : JE X W b s (.ok (.ky ns)) s) (h2 : JE X W c s (.ok (.int z)) s) (hi : s.sl[i]? = some (.c j) := by rfl) (hc : s.cl[j]? = some (.dic (cDc d)) := by rfl) (hN : X.N[i]? = some x := by rfl)
    (hv : Vis X.env.scope x := by first | exact Or.inl rfl | exact Or.inr (Or.inl rfl) | exact Or.inr (Or.inr rfl)) (hd1 : (x == ("__debug__" : Str)) = false := by decide) (hd2 : (x == ("__classdict__" : Str)) = false := by decide)
    (m : M2 X (.Name x p) "get" apos b c pos := by exact ⟨rfl, rfl, rfl, rfl⟩) : JE X W (.Call (.Attribute (.Name x p) "get" apos) [b, c] [] pos) s (.ok (.int ((kGet d ns).getD z))) s :=
  je_of (pe_dget2 C.u1 (pe_var hN hv hd1 hd2) pe_w pe_w m) fun as B H σ ok Q qq => by
    obtain ⟨a, v1, ha⟩ := cell_of ok hi
    obtain ⟨us, hu, hks, hvs⟩ := ok.cs.2 j a _ ha hc
    refine ⟨.ref a, v1, a, rfl, .inr ⟨us, .inl hu⟩, Ok.two h h2 ok fun y w B2 H2 e2 o2 r1 r2 => ?_⟩
    obtain ⟨us, hu, hks, hvs⟩ := o2.cs.2 j a _ ha hc
    have eu := cell_v hks hvs
    subst eu
    cases r2
    cases r1 with
    | @ky b0 _ hb =>
      have hkey := o2.sm _ _ hb
      rw [← nkey_kV] at hkey
      refine ⟨_, .inr ⟨_, _, b0, .inl hu, rfl, hkey, rfl⟩, ?_⟩
      rw [val_v]
      have e3 : ((kGet d ns).map V.int).getD (V.int z) = V.int ((kGet d ns).getD z) := by cases kGet d ns <;> rfl
      rw [e3]
      exact qq _ _ _ e2 o2 (.int _)
/-- x = dict(e): a new cell -/
theorem js_copyD (i : Nat) (C : Cok X W k) (hmd : X.mg "dict" = none) (ha : JE X WN a s (.ok (.dct (eDc d))) s) (hn : ((d.map (·.1)).map nhash).Nodup) (hP : P.nx ⟨l, cl⟩) (hl : s.sl.set i (.c s.cl.length) = l := by rfl) (hcl : s.cl ++ [.dic (cDc d)] = cl := by rfl) (hi : X.N[i]? = some x := by rfl) (hx : Loc X.env.scope x := by first | exact .inl rfl | exact .inr rfl) (hns : i < s.sl.length := by exact of_decide_eq_true rfl) (hs : swapsWith (.Call (.Name "dict" p) [a] [] p2) (some (.Name x pos')) pos.line X.env = pure false := by rfl) (hf : X.fn x = true ∨ X.env.scope.names.lookup x = some .local := by first | exact .inl rfl | exact .inr rfl) (hg : Gl X "dict" := by rfl)
    (he : starEach (a :: []) X.env = (false, eval a X.env) :: starEach [] X.env := by rfl) (hpl : (backTo p2 (starEach [] X.env)).any (·.1) = false := by rfl) :
    JS X W (.Assign [.Name x pos'] (.Call (.Name "dict" p) [a] [] p2) pos) s P := js_of (ps_set C.nd hi hx (pe_callTy (call_dictT C.hr.units) hg hmd (by decide +kernel) (pa_cons pe_w pa_nil he) (by decide) (by decide) he hpl) hs hf) fun as B H σ ok Dn f => Ok.one ha ok fun w B1 H1 x1 o1 r1 => by
  obtain ⟨a0, rfl, rd⟩ := dct_rd o1.sm r1
  refine ⟨a0, vDc d, d.map (·.1), rfl, rd, by unfold vDc; rw [List.map_map, List.map_map]; rfl, hn, fun p hp => ?_⟩
  obtain ⟨o2, x2⟩ := o1.cell (o := .dT (vDc d)) (c := .dic (cDc d)) hp ⟨_, upd_same, by unfold vDc cDc; rw [List.map_map, List.map_map]; rfl, by
    have e1 : (vDc d).map (·.2) = (d.map (·.2)).map V.int := by unfold vDc; rw [List.map_map, List.map_map]; rfl
    have e2 : (cDc d).map (·.2) = (d.map (·.2)).map D.int := by unfold cDc; rw [List.map_map, List.map_map]; rfl
    rw [e1, e2]
    exact Reps.of_ints _⟩
  have hl1 := o1.cs.1
  have o3 := o2.store (i := i) (o := some (.ref p)) (x := .c s.cl.length) hns ⟨p, by rw [← hl1, List.getElem?_append_right (Nat.le_refl _)]; simp, rfl⟩
  dsimp only at o3
  rw [hl] at o3
  rw [← hcl] at hP
  exact f.nx _ _ _ _ _ (x1.trans x2) o3 hP
/-! ### tuples that are keys -/
theorem je_key {j : Nat} (h : JD X es s (ns.map .int) s1) (hl : ns.length ≤ sizeLine := by exact Nat.le_of_ble_eq_true rfl) : JE X W (.Tuple es j pos) s (.ok (.ky ns)) s1 :=
  je_of (pe_tup pa_w) fun as B H σ ok Q qq => h as B H σ ok _ fun vs B1 H1 e1 o1 r => by
    have ln := r.length
    rw [List.length_map] at ln
    refine ⟨by omega, fun p hp => ?_⟩
    obtain ⟨o3, e3⟩ := o1.new (o := .tup vs) hp
    exact qq _ _ _ (e1.trans e3) o3 (.ky (by rw [upd_same, r.ints]))
theorem je_ixK {i : Int} (ha : JE X W a s (.ok (.ky ns)) s1) (hb : JE X W b s1 (.ok (.int i)) s2) (h : L2.atI ns i = some v) (hs : PlainIx b := by (intro _ _; rfl)) : JE X W (.Subscript a b pos) s (.ok (.int v)) s2 :=
  je_of (pe_ix ix_seq pe_w pe_w hs) fun as B H σ ok Q qq => Ok.two ha hb ok fun x y B2 H2 e2 o2 rx ry => by
    cases ry
    cases rx with
    | @ky a0 _ ha =>
      refine .inr (.inl ⟨_, _, i, .int v, rfl, rfl, .inl (.inl (o2.sm _ _ ha)), ?_, qq _ B2 H2 e2 o2 (.int v)⟩)
      unfold L2.atI at h ⊢
      rw [List.length_map]
      cases e : ixN ns.length i with
      | none => rw [e] at h; cases h
      | some j =>
        rw [e] at h
        show (ns.map V.int)[j]? = _
        rw [List.getElem?_map]
        have h' : ns[j]? = some v := h
        rw [h']
        rfl
/-- t[lo:hi], not the whole, to be a key -/
theorem je_cutK {lo hi : Option Expr} {lo' hi' : Option Int} (ha : JE X W a s (.ok (.tup (ns.map .int))) s) (hl : JO X lo s lo') (hu : JO X hi s hi') (hn : ¬ (HT.sIx ns.length 0 lo' = 0 ∧ HT.sIx ns.length ns.length hi' = ns.length)) : JE X W (.Subscript a (.Slice lo hi none p2) pos) s (.ok (.ky (cutG ns lo' hi'))) s :=
  je_of (pe_slice sl_tup pe_w po_w po_w) fun as B H σ ok Q q => Ok.one ha ok fun x B1 H1 e1 o1 r => hl as B1 H1 σ o1 _ fun B2 H2 e2 o2 => hu as B2 H2 σ o2 _ fun B3 H3 e3 o3 => by
    cases r with
    | tup sa ra =>
      have ei := ra.ints
      subst ei
      refine ⟨_, _, rfl, same_t o3.sm (same_t (e2.b.trans e3.b) sa), by rw [List.length_map]; exact hn, fun p hp => ?_⟩
      obtain ⟨o4, e4⟩ := o3.new (o := .tup _) hp
      refine q _ _ _ (((e1.trans e2).trans e3).trans e4) o4 (.ky ?_)
      rw [upd_same]
      unfold cutV cutG
      rw [List.length_map, ← List.map_drop, ← List.map_take]
/-! ### the greatest, in order -/
theorem je_maxR {n0 : List Int} {nss : List (List Int)} {V0 : WX} (C : Cok X V0 k) (hm : X.mg "max" = none) (ha : JE X W a s (.ok (.lst ((n0 :: nss).map fun n => .tup (n.map .int)))) s1) (hg : Gl X "max" := by rfl)
    (he : starEach (a :: []) X.env = (false, eval a X.env) :: starEach [] X.env := by rfl) (hpl : (backTo pos (starEach [] X.env)).any (·.1) = false := by rfl) : JE X W (.Call (.Name "max" p) [a] [] pos) s (.ok (.tup ((maxL n0 nss).map .int))) s1 :=
  je_call1 (cr_maxR C.calm C.hr.units) ha (fun as B H B1 H1 σ v Q e1 o1 r1 q => by
      cases r1 with
      | lst g1 g2 =>
        obtain ⟨ks, k1, k2, k3⟩ := reps_tups g2
        subst k1
        exact ⟨_, ks, n0, nss, rfl, .inl (.inl (o1.sm _ _ g1)), fun p hp => same_t o1.sm (k3 p hp), k2, fun p hp ep => q _ B1 H1 e1 o1 (.tup (by rw [← ep]; exact k3 p hp) (Reps.of_ints _))⟩) hm (by decide +kernel) hg (by decide) (by decide) he hpl
theorem ltI_anti (a b : List Int) (h1 : ltI b a = false) (h2 : ltI a b = false) : a = b := by
  rw [← ltI_eq, decide_eq_false_iff_not] at h1 h2
  exact List.le_antisymm h1 h2
theorem reps_pick {K : PySem.W.Frag} {B : Hp} : ∀ {ms : List (Addr × List Int)}, (∀ p ∈ ms, SqT K B p.1 (p.2.map V.int)) → Reps K B (ms.map fun z => V.ref z.1) ((ms.map (·.2)).map fun n => D.tup (n.map .int))
  | [], _ => .nil
  | p :: ms, h => .cons (.tup (h p List.mem_cons_self) (Reps.of_ints _)) (reps_pick fun q hq => h q (List.mem_cons_of_mem _ hq))
theorem jf_sortedR {ls ms : List (List Int)} (C : Cok X W k) (hm : X.mg "sorted" = none) (ha : JE X WN a s (.ok (.lst (ls.map fun n => .tup (n.map .int)))) s1) (hne : ∀ n ∈ ls, n ≠ []) (hp : ms.Perm ls) (hs : ms.Pairwise fun x y => ltI y x = false) (hg : Gl X "sorted" := by rfl)
    (he : starEach (a :: []) X.env = (false, eval a X.env) :: starEach [] X.env := by rfl) (hpl : (backTo pos (starEach [] X.env)).any (·.1) = false := by rfl) : JF X (.Call (.Name "sorted" p) [a] [] pos) s (ms.map fun n => .tup (n.map .int)) s1 :=
  jf_of (pe_callB (cr_sortedR C.hr.units) hg hm (by decide +kernel) (pa_cons pe_w pa_nil he) (by decide) (by decide) he hpl) fun as B H σ ok Q q => Ok.one (W := WN) ha ok fun v B1 H1 x1 o1 r1 => by
    cases r1 with
    | lst g1 g2 =>
      obtain ⟨ks, k1, k2, k3⟩ := reps_tups g2
      subst k1
      refine ⟨_, ks, rfl, .inl (.inl (o1.sm _ _ g1)), fun p hp => same_t o1.sm (k3 p hp), fun p hp => hne p.2 (by rw [← k2]; exact List.mem_map_of_mem hp), fun ms' q0 e1 e2 hq => ?_⟩
      have er : ms'.map (·.2) = ms := uniq (r := fun x y => ltI y x = false) (fun a b h1 h2 => ltI_anti a b h1 h2) (((e1.map (·.2)).trans (by rw [k2])).trans hp.symm) e2 hs
      rw [← er] at q
      exact Ok.newF x1 o1 hq (reps_pick fun p hp => k3 p (e1.mem_iff.mp hp)) q
end
end DL
set_option Elab.async false
set_option linter.all false
set_option maxRecDepth 100000
set_option maxHeartbeats 4000000
set_option autoImplicit true
/-! DLy: comprehensions over such dicts; instances with two values; tests that change cells -/
namespace DL
open PySem PySem.Spec PyProof.Rows L2
section
variable {X : Cx} {W : WX} {k : Nat} {e a b c iter elt : Expr} {es ifs body orelse : List Expr} {sts sts2 : List Stmt} {s s' s1 s2 s3 : A} {P : Po} {da db : D} {r : Res} {d : Dc} {pos p2 p p3 apos pos' py px pp : Pos} {x y : Str} {β : Bool} {l : List Sl} {cl : List Cl} {op : CmpOp} {scope : Scope}
/-- [elt for x, y in e if ..], e a dict with pairs as keys -/
theorem lc_keys2 (i j : Nat) (d : Dc) (ps : List (Int × Int)) (pr : Int → Int → Bool) (f : Int → Int → D) (C : Cok X W k) (he : JE X WN iter s (.ok (.dct (eDc d))) s) (hps : d.map (·.1) = ps.map fun p => [p.1, p.2]) (hifs : ifs.length ≤ 1)
    (ht : ∀ p ∈ ps, Blk X scope (fun Y => Cok Y WN k) → JTs X scope ifs ⟨(s.sl.set i (.d (.int p.1))).set j (.d (.int p.2)), s.cl⟩ (pr p.1 p.2))
    (hs : ∀ p ∈ ps, pr p.1 p.2 = true → Blk X scope fun Y => Cok Y WN k → JE Y WN elt ⟨(s.sl.set i (.d (.int p.1))).set j (.d (.int p.2)), s.cl⟩ (.ok (f p.1 p.2)) ⟨(s.sl.set i (.d (.int p.1))).set j (.d (.int p.2)), s.cl⟩) (hlen : ps.length ≤ sizeLine)
    (hblk : blkC X.N X.env.scope scope [(x, i), (y, j)] = true := by kernel_rfl) (hn : i < s.sl.length := by exact of_decide_eq_true rfl) (hm : j < s.sl.length := by exact of_decide_eq_true rfl) (hij : i ≠ j := by decide) (hNi : X.N[i]? = some x := by rfl) (hNj : X.N[j]? = some y := by rfl)
    (hloc : Blk X scope fun Y => Loc Y.env.scope x := by first | exact fun _ _ _ _ _ => Or.inl rfl | exact fun _ _ _ _ _ => Or.inr rfl) (hfn : Blk X scope fun Y => Y.fn x = true ∨ Y.env.scope.names.lookup x = some .local := by first | exact fun _ _ _ _ _ => .inr rfl | exact fun _ _ _ _ _ => .inl rfl)
    (hloc2 : Blk X scope fun Y => Loc Y.env.scope y := by first | exact fun _ _ _ _ _ => Or.inl rfl | exact fun _ _ _ _ _ => Or.inr rfl) (hfn2 : Blk X scope fun Y => Y.fn y = true ∨ Y.env.scope.names.lookup y = some .local := by first | exact fun _ _ _ _ _ => .inr rfl | exact fun _ _ _ _ _ => .inl rfl) :
    Lc X (.Tuple [.Name x px, .Name y py] 0 pp) iter elt ifs scope [(x, i), (y, j)] (gTup X.K 2 (gCons (gName i) (gCons (gName j) gNil))) s ((ps.filter fun p => pr p.1 p.2).map fun p => f p.1 p.2) s where
  blk := blkOk_by hblk
  h1 := hifs
  hg := fun s0 H0 C0 cl0 fp0 => pg_tup (C.blk s0 H0 C0 cl0 fp0).calm (pgs_cons (pg_name C.nd hNi (hloc s0 H0 C0 cl0 fp0) (hfn s0 H0 C0 cl0 fp0)) (pgs_cons (pg_name C.nd hNj (hloc2 s0 H0 C0 cl0 fp0) (hfn2 s0 H0 C0 cl0 fp0)) pgs_nil))
  run := fun as B H σ ok Q q => wI_of (pi_keys pe_w) (Ok.one he ok fun v B1 H1 x1 o1 r1 => by
    cases r1 with
    | @dct a0 ob _ hB0 =>
    rw [vDc_eq] at hB0
    have hlv : (vDc d).length = ps.length := by
      have := congrArg List.length hps
      rw [List.length_map, List.length_map] at this
      unfold vDc
      rw [List.length_map, this]
    refine ⟨a0, ob, rfl, .inr ⟨vDc d, o1.sm _ _ hB0, fun Dl hD => ?_⟩⟩
    have hDas : Dl ∉ as := free_lt o1 hD
    have hDB : B1 Dl = none := o1.sm.free hD
    refine ⟨fun n m H' => m = ps.length - n ∧ n ≤ ps.length ∧ ∃ B', Ext as B1 H1 as B' H' ∧ Ok X.K as B' H' σ s ∧ B' Dl = none ∧ ∃ vs, H' Dl = some (.lst vs) ∧ Reps X.K B' vs (((ps.take n).filter fun p => pr p.1 p.2).map fun p => f p.1 p.2),
      ⟨ps.length, by simp, Nat.zero_le _, B1, (Ext.refl as B1 H1).poke hD, o1.poke hDas hDB, hDB, [], upd_same, .nil⟩, ?_⟩
    rintro n m H' ⟨rfl, hle, B', x2, o2, hB', vs, hv, hr⟩
    have sm : Same B1 H' := x2.b.trans o2.sm
    have hH' : H' a0 = some (.frz ob (.dT (vDc d))) := sm _ _ hB0
    by_cases hlt : n < ps.length
    · refine .inr ⟨⟨hH', by rw [hlv]; exact hlt⟩, fun H2 => ∃ B2, Ext as B1 H1 as B2 H2 ∧ Ok X.K as B2 H2 σ s ∧ B2 Dl = none ∧ ∃ vs, H2 Dl = some (.lst vs) ∧ Reps X.K B2 vs (((ps.take (n + 1)).filter fun p => pr p.1 p.2).map fun p => f p.1 p.2), fun H2 z => ⟨ps.length - (n + 1), by omega, rfl, hlt, z⟩, fun v H2 y => ?_⟩
      obtain ⟨rfl, kk, vv, qa, hk, rfl, hq⟩ := y
      obtain ⟨pq, hpq⟩ : ∃ pq, ps[n]? = some pq := ⟨ps[n], List.getElem?_eq_getElem hlt⟩
      have hkk : kk = nkey [pq.1, pq.2] := by
        have e1 : (vDc d)[n]? = (d[n]?).map fun p => (nkey p.1, V.int p.2) := by unfold vDc; rw [List.getElem?_map]
        have e2 := congrArg (fun l => l[n]?) hps
        rw [List.getElem?_map, List.getElem?_map, hpq] at e2
        cases ed : d[n]? with
        | none => rw [ed] at e2; cases e2
        | some dp =>
          rw [ed] at e2 e1
          have e3 : dp.1 = [pq.1, pq.2] := Option.some.inj e2
          rw [e1] at hk
          have e4 : (nkey dp.1, V.int dp.2) = (kk, vv) := Option.some.inj hk
          have e5 : nkey dp.1 = kk := congrArg Prod.fst e4
          rw [← e5, e3]
      subst hkk
      rw [nkey_kV] at hq
      have mem := List.mem_of_getElem? hpq
      have ow := o2.wiped [i, j] fun v hv => by
        rcases List.mem_cons.mp hv with e | hv
        · rw [e]; exact hn
        · rw [List.mem_singleton.mp hv]; exact hm
      refine ⟨qa, [V.int pq.1, V.int pq.2], rfl, .inl (.inl hq), rfl, V.int pq.1, [V.int pq.2], rfl, V.int pq.2, [], rfl, rfl, ?_⟩
      have o3 := ow.store (i := i) (o := some (V.int pq.1)) (x := .d (.int pq.1)) (by rw [wipeL_length]; exact hn) ⟨_, rfl, .int _⟩
      have o4 := o3.store (i := j) (o := some (V.int pq.2)) (x := .d (.int pq.2)) (by rw [List.length_set, wipeL_length]; exact hm) ⟨_, rfl, .int _⟩
      have esl : (((s.sl.set j .u).set i .u).set i (.d (.int pq.1))).set j (.d (.int pq.2)) = (s.sl.set i (.d (.int pq.1))).set j (.d (.int pq.2)) := by
        rw [List.set_set, List.set_comm _ _ (Ne.symm hij), List.set_set]
      dsimp only [wipeL] at o4
      rw [esl] at o4
      refine ⟨?_, ?_⟩
      · show (((((σ.set j none).set i none).set i (some (V.int pq.1))).set j (some (V.int pq.2))).set j none).set i none = (σ.set j none).set i none
        rw [List.set_set, List.set_set, List.set_comm _ _ (Ne.symm hij), List.set_comm _ _ (Ne.symm hij), List.set_comm _ _ hij, List.set_set]
        rw [List.set_comm _ _ (Ne.symm hij), List.set_set]
        exact List.set_comm _ _ hij
      refine jts_run (ht pq mem fun s0 H0 C0 cl0 fp0 => C.blk s0 H0 C0 cl0 fp0) o4 fun B3 H3 x3 o5 => ?_
      have hD3 : H2 Dl ≠ none := ne_none hv
      have hB3 : B3 Dl = none := x3.n Dl hB' hD3 hDas
      have back : ∀ {B4 H4 σ4 l4}, Ext as B' H2 as B4 H4 → Ok X.K as B4 H4 σ4 ⟨l4, s.cl⟩ → Ok X.K as B4 H4 σ s := fun {B4 H4 σ4 l4} x o => ⟨o.sm, o.nd, o.ht, o.nb, o.cs, o2.ln, fun i y hy => (o2.sl i y hy).mono x.b ⟨[], by simp⟩⟩
      have et : ps.take (n + 1) = ps.take n ++ [pq] := by rw [List.take_add_one, hpq]; rfl
      cases hb : pr pq.1 pq.2 with
      | true =>
        refine iteT fun s0 H0 C0 cl0 fp0 => ?_
        refine hs pq mem hb s0 H0 C0 cl0 fp0 (C.blk s0 H0 C0 cl0 fp0) as B3 H3 _ o5 _ fun u B4 H4 x4 o6 r6 => ?_
        have hB4 : B4 Dl = none := x4.n Dl hB3 (x3.t Dl hD3) hDas
        have hv4 : H4 Dl = some (.lst vs) := x4.k Dl _ hDas (x3.k Dl _ hDas hv)
        refine ⟨vs, hv4, ?_, B4, ((x2.trans x3).trans x4).poke hD, (back (x3.trans x4) o6).poke hDas hB4, hB4, vs ++ [u], upd_same, ?_⟩
        · have h1 := hr.length
          have h2 := List.length_filter_le (fun p : Int × Int => pr p.1 p.2) (ps.take n)
          rw [List.length_take] at h2
          rw [List.length_map] at h1
          omega
        · rw [et, List.filter_append, List.map_append]
          have e5 : ([pq].filter fun p : Int × Int => pr p.1 p.2) = [pq] := by simp [hb]
          rw [e5]
          exact (hr.mono (x3.trans x4).b).append (.cons r6 .nil)
      | false =>
        refine iteF ⟨B3, x2.trans x3, back x3 o5, hB3, vs, x3.k Dl _ hDas hv, ?_⟩
        rw [et, List.filter_append, List.map_append]
        have e5 : ([pq].filter fun p : Int × Int => pr p.1 p.2) = [] := by simp [hb]
        rw [e5, List.map_nil, List.append_nil]
        exact hr.mono x3.b
    · have e : n = ps.length := by omega
      subst e
      rw [List.take_length] at hr
      exact .inl ⟨⟨hH', by rw [hlv]; exact Nat.le_refl _⟩, q Dl vs B' H' (x1.trans x2) o2 (x1.back hD) hB' hv hr⟩)
/-- return, of nothing -/
theorem js_retN (hP : P.rt .non s.cl) : JS X W (.Return none pos) s P := js_of ps_retN fun as B H σ ok Dn f => f.rt as B H σ s .non .non (Ext.refl ..) ok .non hP
/-- a test that changes cells -/
def JTc (X : Cx) (e : Expr) (s : A) (b : Bool) (s' : A) : Prop := ∀ as B H σ, Ok X.K as B H σ s → ∀ Q : Bool → Hp → Prop, (∀ B' H', Ext as B H as B' H' → Ok X.K as B' H' σ s' → Q b H') → wT X e σ H Q
theorem jtc_cmp (C : Cok X W k) (ha : JE X WN a s (.ok da) s1) (hb : JE X WN b s1 (.ok db) s2) (h : CmpD op da db β) (hm : behindInMarks op b = false := by first | exact nomark _ | rfl) : JTc X (.Compare a [op] [b] pos) s β s2 := by
  obtain ⟨r, ho, hr⟩ := cmp_rule C.u65 h
  exact fun as B H σ ok Q q => wT_of (pt_cmpR ho pe_w pe_w hm) (Ok.two ha hb ok fun x y B2 H2 e2 o2 rx ry => hr B2 H2 x y _ o2.sm rx ry ⟨_, rfl, q B2 H2 e2 o2⟩)
theorem js_ifc {bd el : List Stmt} (ht : JTc X c s β s1) (h1 : β = true → JB X W bd s1 P) (h2 : β = false → JB X W el s1 P) : JS X W (.If c bd el pos) s P := js_of (ps_if pt_w pss_w pss_w) fun as B H σ ok Dn f => ht as B H σ ok _ fun B1 H1 e1 o1 => by
  cases β with
  | true => exact iteT (h1 rfl as B1 H1 σ o1 Dn (f.on e1))
  | false => exact iteF (h2 rfl as B1 H1 σ o1 Dn (f.on e1))
/-! ### making: __init__(self, v): self.f = v; self.g = None -/
def spInitS (C : Addr) (f g : Str) : Sp := fun vs H Q _ => ∃ (x dx : Addr) (v : V), vs = [.ref x, v] ∧ H x = some (.ins C dx []) ∧
  ∀ (H' : Hp), H' x = some (.ins C dx [(f, v), (g, .non)]) → (∀ b o, H b = some o → b ≠ x → H' b = some o) → Q .non H'
structure MkS (P : Program) (w : World) (K : PySem.W.Frag) (mg : Str → Option Value) (base : Heap) (x : Str) (C : Addr) (f g : Str) (k : Nat) : Prop where
  mak : ∃ (h : Addr) (fd : FuncData) (ps : List Str), Mk K C h ∧ FnOk P w K mg base (L2.CX P w) k h fd ps (spInitS C f g) ∧ Binds K fd ps []
  mg : mg x = some (.ref C)
/-- x = C(e): the instance is a new cell -/
theorem js_makeS (i : Nat) {j : Nat} {f g : Str} {Cc : Addr} {d : D} (K : Cok X W k) (M : MkS X.prog X.w X.K X.mg X.base y Cc f g j) (hk : j + 1 ≤ k) (he : JE X WN e s (.ok d) s1) (hP : P.nx ⟨l, cl⟩) (hl : s1.sl.set i (.c s1.cl.length) = l := by rfl) (hcl : s1.cl ++ [.ins Cc [(f, .d d), (g, .d .non)]] = cl := by rfl) (hN : X.N[i]? = some x := by rfl) (hx : Loc X.env.scope x := by first | exact .inl rfl | exact .inr rfl) (hn : i < s1.sl.length := by exact of_decide_eq_true rfl) (hs : swapsWith (.Call (.Name y p) [e] [] p2) (some (.Name x pos')) pos.line X.env = pure false := by rfl) (hf : X.fn x = true ∨ X.env.scope.names.lookup x = some .local := by first | exact .inl rfl | exact .inr rfl)
    (hg : Gl X y := by rfl) (hdb : (y == ("__debug__" : Str)) = false := by decide) (hse : starEach (e :: []) X.env = (false, eval e X.env) :: starEach [] X.env := by rfl) (hpl : (backTo p2 (starEach [] X.env)).any (·.1) = false := by rfl) :
    JS X W (.Assign [.Name x pos'] (.Call (.Name y p) [e] [] p2) pos) s P := by
  obtain ⟨h0, fd, ps, mk, hfn, hb⟩ := M.mak
  exact js_of (ps_set K.nd hN hx (pe_make (E := fun _ _ _ => False) mk hfn (K.hr.mono hk) hg M.mg hb .nil (passes_call K.tk fun _ _ _ _ z => z.elim) (pa_cons pe_w pa_nil hse) hdb hse hpl) hs hf) fun as B H σ ok Dn fit => Ok.one he ok fun v B1 H1 x1 o1 r1 => by
    intro z dz hz hdz hne
    refine ⟨z, dz, v, rfl, upd_same, fun H' h2 h3 => ⟨rfl, ?_⟩⟩
    have grow : ∀ b o, H1 b = some o → H' b = some o := fun b o e => by
      have n1 : b ≠ z := ne_of_none e hz
      have n2 : b ≠ dz := ne_of_none e hdz
      exact h3 b o (by rw [upd_ne n1, upd_ne n2]; exact e) n1
    have o2 := o1.grow grow
    have hl1 := o1.cs.1
    have za : z ∉ as := fun e => o1.ht z e hz
    have o4 := o2.adoptC (p := z) (c := .ins Cc [(f, .d d), (g, .d .non)]) za (o1.sm.free hz) (ne_none h2) ⟨dz, _, h2, rfl, fun i y hy => by
        match i, hy with
        | 0, hy => cases hy; exact ⟨v, rfl, r1⟩
        | 1, hy => cases hy; exact ⟨.non, rfl, .non⟩⟩
    have o5 := o4.store (i := i) (o := some (.ref z)) (x := .c s1.cl.length) hn ⟨z, by
      rw [List.getElem?_append_right (by omega)]
      have : s1.cl.length - as.length = 0 := by omega
      rw [this]
      rfl, rfl⟩
    dsimp only at o5
    rw [hl, hcl] at o5
    refine fit.nx _ B1 H' _ _ (x1.trans ⟨fun _ _ e => e, fun a o _ e => grow a o e, fun a e _ _ => e, ⟨[z], rfl, fun a ha => ?_⟩, fun a ha => ?_⟩) o5 hP
    · rw [List.mem_singleton.mp ha]; exact hz
    · cases e : H1 a with
      | none => exact absurd e ha
      | some o => rw [grow a o e]; exact fun z => nomatch z
end
end DL
set_option Elab.async false
set_option linter.all false
set_option maxRecDepth 100000
set_option maxHeartbeats 4000000
set_option autoImplicit true
/-! DLz: cells that are dicts of pairs, by their plain contents -/
namespace DL
open PySem PySem.Spec PyProof.Rows L2
section
variable {X : Cx} {W : WX} {k : Nat} {e a b c : Expr} {es : List Expr} {s s' s1 s2 s3 : A} {P : Po} {d : Dc} {pos p2 p apos pos' : Pos} {x : Str} {l : List Sl} {cl : List Cl} {ns : List Int} {v : Int} {q : Nat}
theorem cDc_len (d : Dc) : (cDc d).length = d.length := by unfold cDc; rw [List.length_map]
/-- (..) not in d -/
theorem jt_dninC (i : Nat) {j q : Nat} (d : Dc) (C : Cok X W k) (h : JD X es s (ns.map .int) s) (hlen : ns.length ≤ sizeLine := by exact Nat.le_of_ble_eq_true rfl) (hi : s.sl[i]? = some (.c j) := by rfl) (hc : s.cl[j]? = some (.dic (cDc d)) := by rfl) (hN : X.N[i]? = some x := by rfl)
    (hv : Vis X.env.scope x := by first | exact Or.inl rfl | exact Or.inr (Or.inl rfl) | exact Or.inr (Or.inr rfl)) (hd1 : (x == ("__debug__" : Str)) = false := by decide) (hd2 : (x == ("__classdict__" : Str)) = false := by decide)
    (hm : behindInMarks .NotIn (.Name x p) = false := by first | exact nobehind _ (by decide) (by decide) | rfl) : JT X (.Compare (.Tuple es q p2) [.NotIn] [.Name x p] pos) s (!(kGet d ns).isSome) := by
  have h2 := jt_dnin (pos := pos) (p2 := p2) (q := q) i C h hlen hi hc hN hv hd1 hd2 hm
  rw [val_c, Option.isSome_map] at h2
  exact h2
/-- d[(..)] -/
theorem je_dgetC (i : Nat) {j q : Nat} (d : Dc) {V0 : WX} (C : Cok X V0 k) (h : JD X es s (ns.map .int) s1) (hg : kGet d ns = some v) (hlen : ns.length ≤ sizeLine := by exact Nat.le_of_ble_eq_true rfl) (hi : s.sl[i]? = some (.c j) := by rfl) (hc : s1.cl[j]? = some (.dic (cDc d)) := by rfl) (hN : X.N[i]? = some x := by rfl)
    (hv : Vis X.env.scope x := by first | exact Or.inl rfl | exact Or.inr (Or.inl rfl) | exact Or.inr (Or.inr rfl)) (hd1 : (x == ("__debug__" : Str)) = false := by decide) (hd2 : (x == ("__classdict__" : Str)) = false := by decide)
    (hno : NoSl (.Tuple es q p2) := by first | exact fun _ _ => rfl | (intro _ _; rfl)) : JE X W (.Subscript (.Name x p) (.Tuple es q p2) pos) s (.ok (.int v)) s1 :=
  je_w (W := V0) (je_dget i C h (by rw [val_c, hg]; rfl) hlen hi hc hN hv hd1 hd2 hno)
/-- d[(..)] = e -/
theorem js_dputC (i j : Nat) {q : Nat} (d : Dc) (C : Cok X W k) (he : JE X WN e s (.ok (.int v)) s1) (h : JD X es s1 (ns.map .int) s2) (hm : d.length < sizeLine) (hP : P.nx ⟨l, cl⟩) (hsl : s2.sl = l := by rfl)
    (hi : s1.sl[i]? = some (.c j) := by rfl) (hc : s2.cl[j]? = some (.dic (cDc d)) := by rfl) (hcl : s2.cl.set j (.dic (cDc (kPut d ns v))) = cl := by rfl) (hlen : ns.length ≤ sizeLine := by exact Nat.le_of_ble_eq_true rfl) (hN : X.N[i]? = some x := by rfl)
    (hv : Vis X.env.scope x := by first | exact Or.inl rfl | exact Or.inr (Or.inl rfl) | exact Or.inr (Or.inr rfl)) (hd1 : (x == ("__debug__" : Str)) = false := by decide) (hd2 : (x == ("__classdict__" : Str)) = false := by decide)
    (hs : swapsWith e (some (.Subscript (.Name x p) (.Tuple es q p2) pos')) pos.line X.env = pure false := by rfl) : JS X W (.Assign [.Subscript (.Name x p) (.Tuple es q p2) pos'] e pos) s P :=
  js_dput i j C he h (by rw [cDc_len]; exact hm) hP hsl hi hc (by rw [put_c]; exact hcl) hlen hN hv hd1 hd2 hs
end
end DL
local macro_rules | `(tactic| walk_at "b") => `(tactic| first | exact DL.BinD.addI | exact DL.BinD.subI | exact DL.BinD.modI (by first | decide | omega) | exact DL.BinD.divI (by first | decide | (constructor <;> omega)) | exact DL.BinD.mulI (.inr (by decide)) | exact DL.BinD.mulI (.inl (by decide)) | exact DL.BinD.mulI (by first | (left; constructor <;> omega) | (right; constructor <;> omega)) | exact DL.BinD.addS (by assumption) | exact DL.BinD.catT (by assumption) (by assumption))
local macro_rules | `(tactic| walk_at "c") => `(tactic| first | exact DL.CmpD.lt | exact DL.CmpD.le | exact DL.CmpD.gt | exact DL.CmpD.ge | exact DL.CmpD.eqI | exact DL.CmpD.neI | exact DL.CmpD.eqS | exact DL.CmpD.neS | exact DL.CmpD.eqB | exact DL.CmpD.isN | exact DL.CmpD.notN)
local macro_rules | `(tactic| walk_at "i") => `(tactic| first | assumption | exact DL.IxD.lst rfl | exact DL.IxD.tup rfl | exact DL.IxD.scr (by assumption) | exact DL.IxD.lst (by assumption) | exact DL.IxD.tup (by assumption))
local macro_rules | `(tactic| walk_at "len") => `(tactic| first | exact DL.LenD.lst | exact DL.LenD.tup | exact DL.LenD.scr | exact DL.LenD.str (by assumption))

namespace Sm
open PySem L2 DL
/-- a net as the program looks at one: any tuples as steps -/
structure N3 where
  wide : Int
  steps : List (List Int)
  outs : List Int
def eS (s : List Int) : D := .tup (s.map .int)
def N3.e (n : N3) : D := .tup [.int n.wide, .lst (n.steps.map eS), .lst (n.outs.map .int)]
structure N3.fit (n : N3) : Prop where
  steps : n.steps.length ≤ 1000
  outs : n.outs.length ≤ 1000
  step : ∀ s ∈ n.steps, s.length ≤ 100
structure N3.ok (n : N3) : Prop where
  w1 : 1 ≤ n.wide
  w2 : n.wide ≤ 64
  ls : n.steps.length ≤ 500
  lo : (n.outs.length : Int) = n.wide
  st : ∀ (k : Nat) (s : List Int), n.steps[k]? = some s → s.length = 2 ∧ ∀ x ∈ s, 0 ≤ x ∧ x < n.wide + k
  os : ∀ o ∈ n.outs, 0 ≤ o ∧ o < n.wide + n.steps.length
/-- a right-made net -/
structure Nt where
  wide : Nat
  steps : List (Nat × Nat)
  outs : List Nat
def eN (n : Nat) : D := .int n
def eP (p : Nat × Nat) : D := .tup [.int p.1, .int p.2]
def Nt.e (n : Nt) : D := .tup [.int n.wide, .lst (n.steps.map eP), .lst (n.outs.map eN)]
structure Nt.good (n : Nt) : Prop where
  w1 : 1 ≤ n.wide
  w2 : n.wide ≤ 64
  ls : n.steps.length ≤ 500
  lo : n.outs.length = n.wide
  st : ∀ (k : Nat) (p : Nat × Nat), n.steps[k]? = some p → p.1 < n.wide + k ∧ p.2 < n.wide + k
  os : ∀ o ∈ n.outs, o < n.wide + n.steps.length
def Nt.n3 (n : Nt) : N3 := ⟨n.wide, n.steps.map fun p => [(p.1 : Int), (p.2 : Int)], n.outs.map fun o : Nat => (o : Int)⟩
theorem Nt.e_n3 (n : Nt) : n.n3.e = n.e := by
  unfold Nt.n3 N3.e Nt.e
  simp only [List.map_map]
  rfl
theorem Nt.good.fit {n : Nt} (h : n.good) : n.n3.fit where
  steps := by
    have := h.ls
    unfold Nt.n3
    rw [List.length_map]
    omega
  outs := by
    have h1 := h.lo
    have h2 := h.w2
    unfold Nt.n3
    rw [List.length_map]
    omega
  step := fun s hs => by
    obtain ⟨p, _, rfl⟩ := List.mem_map.mp hs
    show 2 ≤ 100
    omega
theorem Nt.good.ok {n : Nt} (h : n.good) : n.n3.ok where
  w1 := by have := h.w1; show (1 : Int) ≤ (n.wide : Int); omega
  w2 := by have := h.w2; show (n.wide : Int) ≤ 64; omega
  ls := by unfold Nt.n3; rw [List.length_map]; exact h.ls
  lo := by have := h.lo; show ((n.outs.map _).length : Int) = (n.wide : Int); rw [List.length_map]; omega
  st := fun k s hs => by
    have hs' : (n.steps.map fun p => [(p.1 : Int), (p.2 : Int)])[k]? = some s := hs
    rw [List.getElem?_map] at hs'
    cases e : n.steps[k]? with
    | none => rw [e] at hs'; cases hs'
    | some p =>
      rw [e] at hs'
      have hs'' : [(p.1 : Int), (p.2 : Int)] = s := Option.some.inj hs'
      subst hs''
      have := h.st k p e
      refine ⟨rfl, fun x hx => ?_⟩
      show 0 ≤ x ∧ x < (n.wide : Int) + k
      simp at hx
      omega
  os := fun o ho => by
    obtain ⟨p, hp, rfl⟩ := List.mem_map.mp ho
    have := h.os p hp
    show 0 ≤ (p : Int) ∧ (p : Int) < (n.wide : Int) + ((n.steps.map _).length : Nat)
    rw [List.length_map]
    omega
theorem N3.ok.nt {n : N3} (h : n.ok) : ∃ m : Nt, m.good ∧ m.n3 = n := by
  have two : ∀ (k : Nat) (s : List Int), n.steps[k]? = some s → ∃ a b : Nat, s = [(a : Int), (b : Int)] ∧ (a : Int) < n.wide + k ∧ (b : Int) < n.wide + k := fun k s hs => by
    obtain ⟨h1, h2⟩ := h.st k s hs
    match s, h1 with
    | [x, y], _ =>
      have hx := h2 x (by simp)
      have hy := h2 y (by simp)
      refine ⟨x.toNat, y.toNat, ?_, by omega, by omega⟩
      congr 1
      · omega
      · congr 1; omega
  have w1 := h.w1
  refine ⟨⟨n.wide.toNat, n.steps.map fun s => ((s.getD 0 0).toNat, (s.getD 1 0).toNat), n.outs.map Int.toNat⟩, ⟨by show 1 ≤ n.wide.toNat; omega, by have := h.w2; show n.wide.toNat ≤ 64; omega, by rw [List.length_map]; exact h.ls, by have := h.lo; rw [List.length_map]; show n.outs.length = n.wide.toNat; omega, fun k p hp => ?_, fun o ho => ?_⟩, ?_⟩
  · rw [List.getElem?_map] at hp
    cases e : n.steps[k]? with
    | none => rw [e] at hp; cases hp
    | some s =>
      rw [e] at hp
      obtain ⟨a, b, rfl, h1, h2⟩ := two k s e
      have hp' : (((a : Int)).toNat, ((b : Int)).toNat) = p := Option.some.inj hp
      subst hp'
      show (a : Int).toNat < n.wide.toNat + k ∧ (b : Int).toNat < n.wide.toNat + k
      omega
  · obtain ⟨x, hx, rfl⟩ := List.mem_map.mp ho
    have := h.os x hx
    show x.toNat < n.wide.toNat + (n.steps.map _).length
    rw [List.length_map]
    omega
  · unfold Nt.n3
    obtain ⟨w, st, os⟩ := n
    dsimp only at *
    congr 1
    · omega
    · rw [List.map_map]
      refine List.ext_getElem? fun k => ?_
      rw [List.getElem?_map]
      cases e : st[k]? with
      | none => rfl
      | some s =>
        obtain ⟨a, b, rfl, _, _⟩ := two k s e
        simp
    · rw [List.map_map]
      refine (List.map_congr_left fun x hx => ?_).trans (List.map_id _)
      have := h.os x hx
      show ((x.toNat : Nat) : Int) = x
      omega
theorem ix_lst {α : Type} (f : α → D) {l : List α} {i : Nat} (x : α) (h : i < l.length) : IxD (.lst (l.map f)) (.int (i : Nat)) (f (l.getD i x)) :=
  .lst (atI_map f (by rw [List.getD_eq_getElem?_getD, List.getElem?_eq_getElem h]; rfl))
theorem set_map {α : Type} (f : α → D) (l : List α) (i : Nat) (x : α) (d : D) (h : f x = d) : (l.map f).set i d = (l.set i x).map f := by
  rw [← h, List.map_set]
end Sm

namespace Sm
open PySem L2 DL
/-- told apart as values just where they differ -/
def Inj {α : Type} [DecidableEq α] (f : α → D) : Prop := ∀ x y, D.eqv (f x) (f y) = decide (x = y)
section
variable {α β : Type} [DecidableEq α] [DecidableEq β] {f : α → D} {g : β → D}
theorem eqv_int (i j : Int) : D.eqv (.int i) (.int j) = decide (i = j) := by
  unfold D.eqv; rw [D.py, D.py, PyData.eqv]; rfl
theorem eqv_bl (i j : Bool) : D.eqv (.bl i) (.bl j) = decide (i = j) := by
  unfold D.eqv; rw [D.py, D.py, PyData.eqv]; cases i <;> cases j <;> rfl
theorem eqv_str (i j : Str) : D.eqv (.str i) (.str j) = decide (i = j) := by
  unfold D.eqv; rw [D.py, D.py, PyData.eqv]
  by_cases h : i = j
  · rw [h]; simp
  · simp [h]
def eqvs : List D → List D → Bool
  | [], [] => true
  | x :: xs, y :: ys => D.eqv x y && eqvs xs ys
  | _, _ => false
theorem eqvs_py : ∀ xs ys : List D, PyData.eqvAll (D.pys xs) (D.pys ys) = eqvs xs ys
  | [], [] => rfl
  | [], _ :: _ => rfl
  | _ :: _, [] => rfl
  | x :: xs, y :: ys => by
    rw [D.pys, D.pys, PyData.eqvAll, eqvs_py xs ys]
    rfl
theorem eqv_lsts (xs ys : List D) : D.eqv (.lst xs) (.lst ys) = eqvs xs ys := by
  unfold D.eqv; rw [D.py, D.py, PyData.eqv, eqvs_py]
theorem eqv_tups (xs ys : List D) : D.eqv (.tup xs) (.tup ys) = eqvs xs ys := by
  unfold D.eqv; rw [D.py, D.py, PyData.eqv, eqvs_py]
theorem eqvs_map (h : Inj f) : ∀ l m : List α, eqvs (l.map f) (m.map f) = decide (l = m)
  | [], [] => rfl
  | [], _ :: _ => rfl
  | _ :: _, [] => rfl
  | x :: xs, y :: ys => by
    rw [List.map_cons, List.map_cons, eqvs, h, eqvs_map h xs ys]
    by_cases e : x = y
    · by_cases e2 : xs = ys <;> simp [e, e2]
    · simp [e]
theorem eqv_lst (h : Inj f) (l m : List α) : D.eqv (.lst (l.map f)) (.lst (m.map f)) = decide (l = m) := by rw [eqv_lsts, eqvs_map h]
theorem eqv_tup (h : Inj f) (l m : List α) : D.eqv (.tup (l.map f)) (.tup (m.map f)) = decide (l = m) := by rw [eqv_tups, eqvs_map h]
theorem inj_int : Inj D.int := eqv_int
theorem inj_bl : Inj D.bl := eqv_bl
theorem inj_str : Inj D.str := eqv_str
theorem inj_lst (h : Inj f) : Inj fun l : List α => D.lst (l.map f) := eqv_lst h
theorem inj_tup (h : Inj f) : Inj fun l : List α => D.tup (l.map f) := eqv_tup h
theorem inj_eN : Inj eN := fun x y => by
  unfold eN; rw [eqv_int, decide_eq_decide]
  omega
theorem inj_eS : Inj eS := inj_tup inj_int
theorem inj_eP : Inj eP := fun x y => by
  unfold eP
  rw [eqv_tups, eqvs, eqvs, eqvs, Bool.and_true]
  obtain ⟨a, b⟩ := x
  obtain ⟨c, d⟩ := y
  show (D.eqv (eN a) (eN c) && D.eqv (eN b) (eN d)) = _
  rw [inj_eN, inj_eN]
  by_cases h : a = c
  · by_cases h2 : b = d <;> simp [h, h2]
  · simp [h]
theorem inD_map (h : Inj f) (x : α) (l : List α) : inD (f x) (l.map f) = decide (x ∈ l) := by
  unfold inD
  induction l with
  | nil => simp
  | cons a l ih =>
    rw [List.map_cons, List.any_cons, ih, h]
    by_cases e : a = x
    · simp [e]
    · have e' : ¬ x = a := fun z => e z.symm
      simp [e, e']
/-- alike to itself -/
theorem eqv_self {n : Nat} {d : D} (h : Sh n d) : D.eqv d d = true := SeqAt.eqv_refl d.py (sh_py n d h).1
theorem sh_int (n : Nat) (i : Int) : Sh n (.int i) := by cases n <;> exact True.intro
theorem sh_bl (n : Nat) (i : Bool) : Sh n (.bl i) := by cases n <;> exact True.intro
theorem sh_non (n : Nat) : Sh n .non := by cases n <;> exact True.intro
theorem sh_eN (n x : Nat) : Sh n (eN x) := sh_int n x
theorem sh_lst {γ : Type} {f : γ → D} {n : Nat} {l : List γ} (h : ∀ x ∈ l, Sh n (f x)) : Sh (n + 1) (.lst (l.map f)) := fun y hy => by
  obtain ⟨x, hx, rfl⟩ := List.mem_map.mp hy
  exact h x hx
theorem sh_tup {γ : Type} {f : γ → D} {n : Nat} {l : List γ} (h : ∀ x ∈ l, Sh n (f x)) : Sh (n + 1) (.tup (l.map f)) := fun y hy => by
  obtain ⟨x, hx, rfl⟩ := List.mem_map.mp hy
  exact h x hx
theorem sh_nil {n : Nat} : ∀ x ∈ ([] : List D), Sh n x := fun _ h => nomatch h
theorem sh_cons {n : Nat} {d : D} {l : List D} (h : Sh n d) (h2 : ∀ x ∈ l, Sh n x) : ∀ x ∈ d :: l, Sh n x := fun x hx => by
  rcases List.mem_cons.mp hx with rfl | hx
  · exact h
  · exact h2 x hx
theorem sh_eP (n : Nat) (p : Nat × Nat) : Sh (n + 1) (eP p) := show ∀ x ∈ _, Sh n x from sh_cons (sh_int _ _) (sh_cons (sh_int _ _) sh_nil)
theorem sh_eS (n : Nat) (s : List Int) : Sh (n + 1) (eS s) := sh_tup fun x _ => sh_int n x
theorem sh_nt (n : Nat) (t : Nt) : Sh (n + 3) t.e := show ∀ x ∈ _, Sh (n + 2) x from sh_cons (sh_int _ _) (sh_cons (sh_lst fun p _ => sh_eP n p) (sh_cons (sh_lst fun x _ => sh_eN _ x) sh_nil))
theorem inj_nt (x y : Nt) : D.eqv x.e y.e = decide (x.wide = y.wide ∧ x.steps = y.steps ∧ x.outs = y.outs) := by
  unfold Nt.e
  rw [eqv_tups, eqvs, eqvs, eqvs, eqvs, eqv_lst inj_eP, eqv_lst inj_eN, Bool.and_true]
  show (D.eqv (eN x.wide) (eN y.wide) && _) = _
  rw [inj_eN]
  by_cases h1 : x.wide = y.wide
  · by_cases h2 : x.steps = y.steps
    · by_cases h3 : x.outs = y.outs <;> simp [h1, h2, h3]
    · simp [h1, h2]
  · simp [h1]
end
end Sm

namespace Wk
open PySem PySem.Spec PyProof.Rows L2 DL
def topS (i : Nat) : Stmt := PySem.Challenge.pw_sumspan_k30_whole_least.main.body.getD i (.Pass ⟨0, 0, 0, 0⟩)
/-- the built-ins are themselves -/
structure Bt (mg : Str → Option Value) : Prop where
  len : mg "len" = none
  range : mg "range" = none
  list : mg "list" = none
  tuple : mg "tuple" = none
  max : mg "max" = none
  min : mg "min" = none
  all : mg "all" = none
  any : mg "any" = none
  int : mg "int" = none
  str : mg "str" = none
  bool : mg "bool" = none
  isinstance : mg "isinstance" = none
  sorted : mg "sorted" = none
  set : mg "set" = none
  reversed : mg "reversed" = none
  VE : mg "ValueError" = none
  dict : mg "dict" = none
end Wk

namespace Wk
open PySem PySem.Spec PyProof.Rows L2 DL Sm
abbrev sLook : Stmt := topS 17
theorem scLook : FnScope ["net", "wide", "steps", "outs", "k", "one", "out"] ["net"] (defScope sLook) := ⟨rfl, rfl, rfl, by decide +kernel, rfl, by decide +kernel, by decide +kernel⟩
def pre3 (cN : Addr) : List D → Res → Prop := fun ds r => ∃ n : N3, n.fit ∧ ds = [n.e] ∧ ((n.ok ∧ r = .ok .non) ∨ (¬ n.ok ∧ r = .er cN))
section
variable {Pg : Program} {w : World} {K : PySem.W.Frag} {mg : Str → Option Value} {base : Heap}
theorem fn_look3 {f : Addr} {fd : FuncData} (F : Fun K "look_net" "look_net" sLook f fd) (hb : Binds K fd ["net"] []) (hm : mg "look_net" = some (.ref f)) (T : Bt mg) {cN : Addr} (xBadNet : ExcOf K mg "BadNet" cN) {t1 t2 : Tok} (mMOST_WIDE_nets : mg "MOST_WIDE_nets" = some (.int 64 t1)) (mMOST_STEPS : mg "MOST_STEPS" = some (.int 500 t2)) :
    Fn Pg w K mg base "look_net" 1 1 (pre3 cN) := by
  refine fn_ok (ps := ["net"]) F scLook hb hm (fun ds r ⟨n, _, h, _⟩ => by rw [h]; rfl) (by decide) fun cdv A outer s H E C ds r ⟨n, hfit, hds, hr⟩ => ?_
  subst hds
  have bad : ¬ n.ok → r = .er cN := fun h => by
    rcases hr with ⟨z, _⟩ | ⟨_, z⟩
    · exact absurd z h
    · exact z
  have hl1 := hfit.steps
  have hl5 : n.outs.length ≤ sizeLine := Nat.le_trans hfit.outs (by decide)
  show JB _ _ _ ⟨[.d n.e, .u, .u, .u, .u, .u, .u], []⟩ _
  refine jb_cons (js_asg (je_var 0) (jg_n3 1 2 3 C ?_))
  refine jb_cons (js_if (jt_w (jw_or (jt_not (jt_chain C je_int (je_var 1) (by walk_at "c") (je_globI mMOST_WIDE_nets) (by walk_at "c"))) (jw_or (jt_cmp C (je_len T.len (je_var 2) (by walk_at "len")) (je_globI mMOST_STEPS) (by walk_at "c")) (jw_or1 (jt_cmp C (je_len T.len (je_var 3) (by walk_at "len")) (je_var 1) (by walk_at "c")))))) (fun hb => ?_) (fun hb => ?_))
  · refine jb_cons (js_raise C xBadNet ?_)
    refine bad fun z => ?_
    have h1 := z.w1; have h2 := z.w2; have h3 := z.ls; have h4 := z.lo
    simp [h1, h2, h4] at hb
    omega
  have hb1 := hb
  refine jb_nil ?_
  refine jb_cons (js_for (fun i s' => (∀ (k : Nat) (s : List Int), k < i → n.steps[k]? = some s → s.length = 2 ∧ ∀ x ∈ s, 0 ≤ x ∧ x < n.wide + k) ∧ s' = ⟨[.d n.e, .d (.int n.wide), .d (.lst (n.steps.map eS)), .d (.lst (n.outs.map .int)), .u, .u, .u], []⟩) C (ji_range1 T.range (je_len T.len (je_var 2) (by walk_at "len")) ?_) ⟨fun _ _ h => absurd h (Nat.not_lt_zero _), rfl⟩ ?_ ?_)
  · rw [List.length_map]; omega
  · rintro i d s' hd ⟨h1, rfl⟩
    rw [List.length_map] at hd
    obtain ⟨hi, rfl⟩ := rng_get hd
    have hg : n.steps[i]? = some n.steps[i] := List.getElem?_eq_getElem hi
    have hix : IxD (.lst (n.steps.map eS)) (.int (i : Nat)) (eS n.steps[i]) := .lst (atI_map eS hg)
    have hl4 : n.steps[i].length ≤ sizeLine := Nat.le_trans (hfit.step _ (List.getElem_mem hi)) (by decide)
    refine jg_name 4 C.nd ?_
    refine jb_cons (js_if (jt_w (jw_or (jt_cmp C (je_len T.len (je_ix (je_var 2) (je_var 4) (by walk_at "i")) (by walk_at "len")) je_int (by walk_at "c")) (jw_or1 (jt_not (jt_val (je_allM C T.all (je_f (jf_lc C (lc_map 5 n.steps[i] C (ji_tup (je_ix (je_var 2) (je_var 4) (by walk_at "i"))) (fun a ha _ _ _ _ _ C => (je_chain' C je_int (je_var 5) (by walk_at "c") (je_bin (je_var 1) (je_var 4) (by walk_at "b")) (by walk_at "c")))))))))))) (fun hb => ?_) (fun hb => ?_))
    · refine jb_cons (js_raise C xBadNet ?_)
      refine bad fun z => ?_
      obtain ⟨z1, z2⟩ := z.st i _ hg
      simp [z1] at hb
      obtain ⟨x, hx, hxx⟩ := hb
      have := z2 x hx
      omega
    refine jb_nil ?_
    refine jb_fin (t := ⟨[.d n.e, .d (.int n.wide), .d (.lst (n.steps.map eS)), .d (.lst (n.outs.map .int)), .u, .u, .u], []⟩) ⟨fun k s hk hs => ?_, rfl⟩
    by_cases e : k = i
    · subst e
      rw [hg] at hs; cases hs
      simp at hb
      refine ⟨by omega, fun x hx => ?_⟩
      have := hb.2 x hx
      omega
    · exact h1 k s (by omega) hs
  · rintro s' ⟨h1, rfl⟩
    rw [List.length_map, List.length_range] at h1
    refine jb_cons (js_if (jt_not (jt_val (je_allM C T.all (je_f (jf_lc C (lc_map 6 n.outs C (ji_list (je_var 3)) (fun a ha _ _ _ _ _ C => (je_chain' C je_int (je_var 6) (by walk_at "c") (je_bin (je_var 1) (je_len T.len (je_var 2) (by walk_at "len")) (by walk_at "b")) (by walk_at "c"))))))))) (fun hb => ?_) (fun hb => ?_))
    · refine jb_cons (js_raise C xBadNet ?_)
      refine bad fun z => ?_
      simp at hb
      obtain ⟨x, hx, hxx⟩ := hb
      have := z.os x hx
      omega
    refine jb_nil (jb_nil ?_)
    rcases hr with ⟨_, z⟩ | ⟨z, _⟩
    · exact z
    · simp at hb hb1
      refine absurd ⟨by omega, by omega, by omega, by omega, fun k s hs => h1 k s (by rw [List.length_map]; exact (List.getElem?_eq_some_iff.mp hs).1) hs, fun o ho => ?_⟩ z
      have := hb o ho
      omega
/-- look_net of nets -/
def preLook (cN : Addr) : List D → Res → Prop := fun ds r => (∃ n : Nt, n.good ∧ ds = [n.e] ∧ r = .ok .non) ∨ ∃ n : N3, n.fit ∧ ¬ n.ok ∧ ds = [n.e] ∧ r = .er cN
theorem preLook_to {cN : Addr} {ds : List D} {r : Res} (h : preLook cN ds r) : pre3 cN ds r := by
  rcases h with ⟨n, hg, h1, h2⟩ | ⟨n, hf, hk, h1, h2⟩
  · exact ⟨n.n3, hg.fit, by rw [h1, n.e_n3], .inl ⟨hg.ok, h2⟩⟩
  · exact ⟨n, hf, h1, .inr ⟨hk, h2⟩⟩
end
/-- of a net f; BadNet of what is none -/
def preN (cN : Addr) (f : Nt → D) : List D → Res → Prop := fun ds r => (∃ n : Nt, n.good ∧ ds = [n.e] ∧ r = .ok (f n)) ∨ ∃ n : N3, n.fit ∧ ¬ n.ok ∧ ds = [n.e] ∧ r = .er cN
theorem preN_len {cN : Addr} {f : Nt → D} : ∀ ds r, preN cN f ds r → ds.length = 1 := fun ds r h => by
  rcases h with ⟨n, _, h, _⟩ | ⟨n, _, _, h, _⟩ <;> rw [h] <;> rfl
theorem n3_bad {n : N3} (h : ¬ ∃ m : Nt, m.good ∧ m.n3 = n) : ¬ n.ok := fun z => h z.nt
def preG (f : Nt → D) : List D → Res → Prop := fun ds r => ∃ n : Nt, n.good ∧ ds = [n.e] ∧ r = .ok (f n)
end Wk

namespace Sm
open PySem L2 DL
/-- a cell of the script -/
def cellI (ns : List Int) (k : Nat) : Int := if ns.isEmpty then 0 else ns.getD (k % ns.length) 0
def mixA (ns : List Int) (k : Nat) : Int := (cellI ns k + 104729 * ((k : Int) + 1)) % 4294967291 * 48271 % 4294967279
def mixI (ns : List Int) (k : Nat) : Int := (mixA ns k / 64 * 69621 + mixA ns k) % 4294967231
def mixN (ns : List Int) (k : Nat) : Nat := (mixI ns k).toNat
theorem mix_cast (ns : List Int) (k : Nat) : mixI ns k = (mixN ns k : Int) := by
  have : 0 ≤ mixI ns k := Int.emod_nonneg _ (by decide)
  unfold mixN
  omega
/-- a drawn step -/
def stepN (ns : List Int) (k wide j : Nat) : Nat × Nat :=
  ([mixN ns (k + 2 + j) / 64 % (wide + j) - 1, mixN ns (k + 2 + j) % (wide + j), mixN ns (k + 2 + j) / 64 % (wide + j), wide + j - 1].getD (mixN ns (k + 2 + j) / 4096 % 4) 0, mixN ns (k + 2 + j) / 64 % (wide + j))
def wideN (ns : List Int) (k most : Nat) : Nat := 1 + mixN ns k % most
def stepsN (ns : List Int) (k most : Nat) : List (Nat × Nat) := (List.range (mixN ns (k + 1) % 9)).map (stepN ns k (wideN ns k most))
def outsN (ns : List Int) (k most : Nat) : List Nat := (List.range (wideN ns k most)).map fun j => mixN ns (k + 12 + j) % (wideN ns k most + (stepsN ns k most).length)
/-- a drawn net -/
def netN (ns : List Int) (k most : Nat) : Nt := ⟨wideN ns k most, stepsN ns k most, outsN ns k most⟩
theorem wideN_le {ns : List Int} {k most : Nat} (h : 1 ≤ most) : 1 ≤ wideN ns k most ∧ wideN ns k most ≤ most := by
  have := Nat.mod_lt (mixN ns k) h
  unfold wideN
  omega
theorem stepsN_len (ns : List Int) (k most : Nat) : (stepsN ns k most).length = mixN ns (k + 1) % 9 := by
  unfold stepsN
  rw [List.length_map, List.length_range]
theorem getD4 {a b c d i m : Nat} (h : i < 4) (ha : a < m) (hb : b < m) (hc : c < m) (hd : d < m) : [a, b, c, d].getD i 0 < m := by
  match i, h with
  | 0, _ => exact ha
  | 1, _ => exact hb
  | 2, _ => exact hc
  | 3, _ => exact hd
theorem netN_good {ns : List Int} {k most : Nat} (h : 1 ≤ most) (h2 : most ≤ 64) : (netN ns k most).good := by
  obtain ⟨w1, w2⟩ := wideN_le (ns := ns) (k := k) h
  refine ⟨w1, by show wideN ns k most ≤ 64; omega, ?_, ?_, fun j p hp => ?_, fun o ho => ?_⟩
  · show (stepsN ns k most).length ≤ 500
    have := Nat.mod_lt (mixN ns (k + 1)) (show 9 > 0 by decide)
    rw [stepsN_len]
    omega
  · show (outsN ns k most).length = wideN ns k most
    unfold outsN
    rw [List.length_map, List.length_range]
  · have hp' : (stepsN ns k most)[j]? = some p := hp
    unfold stepsN at hp'
    rw [List.getElem?_map] at hp'
    cases e : (List.range (mixN ns (k + 1) % 9))[j]? with
    | none => rw [e] at hp'; cases hp'
    | some i =>
      rw [e] at hp'
      have hp'' : stepN ns k (wideN ns k most) i = p := Option.some.inj hp'
      have ei : i = j := by
        obtain ⟨_, h2⟩ := List.getElem?_eq_some_iff.mp e
        rw [List.getElem_range] at h2
        exact h2.symm
      subst ei
      rw [← hp'']
      have hpos : 0 < wideN ns k most + i := by omega
      have m1 := Nat.mod_lt (mixN ns (k + 2 + i) / 64) hpos
      have m2 := Nat.mod_lt (mixN ns (k + 2 + i)) hpos
      show _ < wideN ns k most + i ∧ _ < wideN ns k most + i
      refine ⟨getD4 (Nat.mod_lt _ (by decide)) (by omega) m2 m1 (by omega), m1⟩
  · have ho' : o ∈ outsN ns k most := ho
    unfold outsN at ho'
    obtain ⟨j, _, rfl⟩ := List.mem_map.mp ho'
    exact Nat.mod_lt _ (by show 0 < wideN ns k most + (stepsN ns k most).length; omega)
theorem netN_few {ns : List Int} {k most : Nat} : (netN ns k most).steps.length ≤ 8 := by
  show (stepsN ns k most).length ≤ 8
  have := Nat.mod_lt (mixN ns (k + 1)) (show 9 > 0 by decide)
  rw [stepsN_len]
  omega
theorem foldl_snoc {α β : Type} (f : α → β) (l : List α) : ∀ acc, l.foldl (fun b a => b ++ [f a]) acc = acc ++ l.map f := by
  induction l with
  | nil => intro acc; simp
  | cons a l ih => intro acc; rw [List.foldl_cons, ih, List.map_cons, List.append_assoc]; rfl
theorem ix_disp {ds : List D} {i : Nat} (h : i < ds.length) : IxD (.lst ds) (.int (i : Nat)) (ds.getD i .non) :=
  .lst (atI_nat (by rw [List.getD_eq_getElem?_getD, List.getElem?_eq_getElem h]; rfl))
end Sm

namespace Wk
open PySem PySem.Spec PyProof.Rows L2 DL Sm
section
variable {Pg : Program} {w : World} {K : PySem.W.Frag} {mg : Str → Option Value} {base : Heap}
abbrev sCell : Stmt := topS 28
theorem scCell : FnScope ["_law_script", "_law_k"] ["_law_script", "_law_k"] (defScope sCell) := ⟨rfl, rfl, rfl, by decide +kernel, rfl, by decide +kernel, by decide +kernel⟩
def preCell : List D → Res → Prop := fun ds r => ∃ (ns : List Int) (k : Nat), ds = [.scr ns, .int k] ∧ r = .ok (.int (cellI ns k))
theorem fn_cell {f : Addr} {fd : FuncData} (F : Fun K "_law_cell" "_law_cell" sCell f fd) (hb : Binds K fd ["_law_script", "_law_k"] []) (hm : mg "_law_cell" = some (.ref f)) (T : Bt mg) : Fn Pg w K mg base "_law_cell" 2 1 preCell := by
  refine fn_ok (ps := ["_law_script", "_law_k"]) F scCell hb hm (fun ds r ⟨ns, k, h, _⟩ => by rw [h]; rfl) (by decide) fun cdv A outer s H E C ds r h => ?_
  obtain ⟨ns, k, rfl, rfl⟩ := h
  show JB _ _ _ ⟨[.d (.scr ns), .d (.int k)], []⟩ _
  refine jb_cons (js_if (jt_tru (je_var 0)) (fun hb => ?_) (fun hb => ?_))
  · have hne : 0 < ns.length := by
      cases ns with
      | nil => cases hb
      | cons a l => exact Nat.succ_pos _
    have hx : L2.atI ns ((k : Int) % (ns.length : Int)) = some (ns.getD (k % ns.length) 0) := by
      have e : (k : Int) % (ns.length : Int) = ((k % ns.length : Nat) : Int) := rfl
      rw [e]
      have hlt := Nat.mod_lt k hne
      exact atI_nat (by rw [List.getD_eq_getElem?_getD, List.getElem?_eq_getElem hlt]; rfl)
    refine jb_cons (js_ret (je_ix (je_var 0) (je_bin (je_var 1) (je_len T.len (je_var 0) .scr) (.modI (by omega))) (.scr hx)) ?_)
    show Res.ok _ = Res.ok _
    rw [cellI, if_neg (by intro z; rw [List.isEmpty_iff] at z; rw [z] at hne; cases hne)]
  refine jb_nil ?_
  refine jb_cons (js_ret je_int ?_)
  show Res.ok _ = Res.ok _
  have : ns.isEmpty = true := by
    have h : (!ns.isEmpty) = false := hb
    simpa using h
  rw [cellI, if_pos this]
abbrev sMix : Stmt := topS 29
theorem scMix : FnScope ["_law_script", "_law_k", "_law_number"] ["_law_script", "_law_k"] (defScope sMix) := ⟨rfl, rfl, rfl, by decide +kernel, rfl, by decide +kernel, by decide +kernel⟩
def preMix : List D → Res → Prop := fun ds r => ∃ (ns : List Int) (k : Nat), ds = [.scr ns, .int k] ∧ r = .ok (.int (mixN ns k))
theorem fn_mix {f : Addr} {fd : FuncData} (F : Fun K "_law_mix" "_law_mix" sMix f fd) (hb : Binds K fd ["_law_script", "_law_k"] []) (hm : mg "_law_mix" = some (.ref f)) (T : Bt mg) (F_law_cell : Fn Pg w K mg base "_law_cell" 2 1 preCell) : Fn Pg w K mg base "_law_mix" 2 2 preMix := by
  refine fn_ok (ps := ["_law_script", "_law_k"]) F scMix hb hm (fun ds r ⟨ns, k, h, _⟩ => by rw [h]; rfl) (by decide) fun cdv A outer s H E C ds r h => ?_
  obtain ⟨ns, k, rfl, rfl⟩ := h
  show JB _ _ _ ⟨[.d (.scr ns), .d (.int k), .u], []⟩ _
  refine jb_cons (js_set 2 C (je_bin (je_bin (je_call C F_law_cell (by decide) (jd_cons (je_var 0) (jd_cons (je_var 1) jd_nil)) ⟨ns, k, rfl, rfl⟩) (je_bin je_int (je_bin (je_var 1) je_int (by walk_at "b")) (by walk_at "b")) (by walk_at "b")) je_int (by walk_at "b")) ?_)
  refine jb_cons (js_set 2 C (je_bin (je_bin (je_var 2) je_int (by walk_at "b")) je_int (by walk_at "b")) ?_)
  refine jb_cons (js_ret (je_bin (je_bin (je_bin (je_bin (je_var 2) je_int (by walk_at "b")) je_int (by walk_at "b")) (je_var 2) (by walk_at "b")) je_int (by walk_at "b")) ?_)
  show Res.ok _ = Res.ok (.int (mixI ns k))
  rw [mix_cast]
end
end Wk

namespace Sm
open PySem L2 DL
/-- stretches cut anywhere: the nodes that are told, the steps -/
structure CS where
  kv : List ((Nat × Nat) × Nat)
  st : List (Nat × Nat)
def look (kv : List ((Nat × Nat) × Nat)) (k : Nat × Nat) : Option Nat := (kv.find? fun p => decide (p.1 = k)).map (·.2)
def put (kv : List ((Nat × Nat) × Nat)) (k : Nat × Nat) (x : Nat) : List ((Nat × Nat) × Nat) :=
  if (kv.any fun p => decide (p.1 = k)) = true then kv.map (fun p => if p.1 = k then (p.1, x) else p) else kv ++ [(k, x)]
def keyN (k : Nat × Nat) : List Key := nkey [(k.1 : Int), (k.2 : Int)]
def encK (kv : List ((Nat × Nat) × Nat)) : List (List Key × D) := kv.map fun p => (keyN p.1, eN p.2)
theorem keyN_inj {a b : Nat × Nat} : keyN a = keyN b ↔ a = b := by
  obtain ⟨a1, a2⟩ := a
  obtain ⟨b1, b2⟩ := b
  constructor
  · intro h
    unfold keyN nkey at h
    simp only [List.map_cons, List.map_nil, List.cons.injEq, Sum.inl.injEq, and_true] at h
    have h1 : a1 = b1 := by omega
    have h2 : a2 = b2 := by omega
    rw [h1, h2]
  · intro h; rw [h]
theorem dval_enc (k : Nat × Nat) : ∀ kv, dval (encK kv) (keyN k) = (look kv k).map eN
  | [] => rfl
  | p :: kv => by
    have ih := dval_enc k kv
    unfold dval look encK at ih ⊢
    rw [List.map_cons, List.find?_cons, List.find?_cons]
    by_cases e : p.1 = k
    · have e2 : keyN p.1 = keyN k := keyN_inj.mpr e
      rw [decide_eq_true e, decide_eq_true e2]
      rfl
    · have e2 : ¬ keyN p.1 = keyN k := fun z => e (keyN_inj.mp z)
      rw [decide_eq_false e, decide_eq_false e2]
      exact ih
theorem dput_enc (k : Nat × Nat) (x : Nat) (kv) : dput (encK kv) (keyN k) (eN x) = encK (put kv k x) := by
  have ea : ((encK kv).any fun p => decide (p.1 = keyN k)) = kv.any fun p => decide (p.1 = k) := by
    unfold encK
    rw [List.any_map]
    congr 1
    funext p
    show decide (keyN p.1 = keyN k) = decide (p.1 = k)
    rw [decide_eq_decide]
    exact keyN_inj
  unfold dput put
  rw [ea]
  split
  · unfold encK
    rw [List.map_map, List.map_map]
    refine List.map_congr_left fun p _ => ?_
    show (if keyN p.1 = keyN k then _ else _) = _
    by_cases e : p.1 = k
    · rw [if_pos (keyN_inj.mpr e)]
      show _ = (fun p : (Nat × Nat) × Nat => (keyN p.1, eN p.2)) (if p.1 = k then (p.1, x) else p)
      rw [if_pos e]
    · rw [if_neg (fun z => e (keyN_inj.mp z))]
      show _ = (fun p : (Nat × Nat) × Nat => (keyN p.1, eN p.2)) (if p.1 = k then (p.1, x) else p)
      rw [if_neg e]
  · unfold encK
    rw [List.map_append]
    rfl
theorem look_put (k : Nat × Nat) (x : Nat) (kv) : look (put kv k x) k = some x := by
  unfold put
  split
  · rename_i h
    unfold look
    induction kv with
    | nil => simp at h
    | cons p kv ih =>
      rw [List.map_cons, List.find?_cons]
      by_cases e : p.1 = k
      · rw [if_pos e, decide_eq_true e]; rfl
      · rw [if_neg e, decide_eq_false e]
        refine ih ?_
        rw [List.any_cons, decide_eq_false e, Bool.false_or] at h
        exact h
  · rename_i h
    have h' : ∀ p ∈ kv, ¬ p.1 = k := fun p hp z => h (List.any_eq_true.mpr ⟨p, hp, decide_eq_true z⟩)
    clear h
    unfold look
    induction kv with
    | nil => simp
    | cons p kv ih =>
      rw [List.cons_append, List.find?_cons, decide_eq_false (h' p List.mem_cons_self)]
      exact ih fun q hq => h' q (List.mem_cons_of_mem _ hq)
theorem put_len (k : Nat × Nat) (x : Nat) (kv) : (put kv k x).length ≤ kv.length + 1 := by
  unfold put
  split
  · rw [List.length_map]; omega
  · rw [List.length_append]; exact Nat.le_refl _
theorem put_mem {k : Nat × Nat} {x : Nat} {kv} {q : (Nat × Nat) × Nat} (h : q ∈ put kv k x) : q ∈ kv ∨ q.2 = x := by
  unfold put at h
  split at h
  · obtain ⟨p, hp, rfl⟩ := List.mem_map.mp h
    by_cases e : p.1 = k
    · rw [if_pos e]; exact .inr rfl
    · rw [if_neg e]; exact .inl hp
  · rcases List.mem_append.mp h with h | h
    · exact .inl h
    · rw [List.mem_singleton.mp h]; exact .inr rfl
theorem look_mem {k : Nat × Nat} {x : Nat} {kv} (h : look kv k = some x) : ∃ q ∈ kv, q.2 = x := by
  unfold look at h
  cases e : kv.find? fun p => decide (p.1 = k) with
  | none => rw [e] at h; cases h
  | some q =>
    rw [e] at h
    exact ⟨q, List.mem_of_find?_eq_some e, Option.some.inj h⟩
/-- where a stretch is cut -/
def cutAt (ns : List Int) (k f l : Nat) : Nat := f + mixN ns (k + 7 * f + l) % (l - f)
/-- the last step of a stretch: a its first half's node, B what its second half came to -/
def cutS (wide f l a : Nat) (B : Nat × CS) : Nat × CS := (wide + B.2.st.length, ⟨put B.2.kv (f, l) (wide + B.2.st.length), B.2.st ++ [(a, B.1)]⟩)
def cutF (ns : List Int) (k wide : Nat) : Nat → Nat → Nat → CS → Nat × CS
  | 0, f, _, s => (f, s)
  | m + 1, f, l, s => if f = l then (f, s) else match look s.kv (f, l) with
    | some x => (x, s)
    | none => cutS wide f l (cutF ns k wide m f (cutAt ns k f l) s).1 (cutF ns k wide m (cutAt ns k f l + 1) l (cutF ns k wide m f (cutAt ns k f l) s).2)
theorem cutF_none {ns : List Int} {k wide m f l : Nat} {s : CS} (e : ¬ f = l) (el : look s.kv (f, l) = none) : cutF ns k wide (m + 1) f l s = cutS wide f l (cutF ns k wide m f (cutAt ns k f l) s).1 (cutF ns k wide m (cutAt ns k f l + 1) l (cutF ns k wide m f (cutAt ns k f l) s).2) := by
  rw [cutF, if_neg e, el]
structure CS.ok (wide : Nat) (s : CS) : Prop where
  st : ∀ (k : Nat) (p : Nat × Nat), s.st[k]? = some p → p.1 < wide + k ∧ p.2 < wide + k
  kv : ∀ q ∈ s.kv, q.2 < wide + s.st.length
  ln : s.kv.length ≤ s.st.length
theorem cutAt_lt {ns : List Int} {k f l : Nat} (h : f < l) : f ≤ cutAt ns k f l ∧ cutAt ns k f l < l := by
  have := Nat.mod_lt (mixN ns (k + 7 * f + l)) (show l - f > 0 by omega)
  unfold cutAt
  omega
theorem cutF_ok (ns : List Int) (k wide : Nat) : ∀ (m f l : Nat) (s : CS), l - f ≤ m → f ≤ l → l < wide → s.ok wide → (cutF ns k wide m f l s).2.ok wide ∧ (cutF ns k wide m f l s).1 < wide + (cutF ns k wide m f l s).2.st.length ∧ s.st.length ≤ (cutF ns k wide m f l s).2.st.length ∧ (cutF ns k wide m f l s).2.st.length ≤ s.st.length + (l - f)
  | 0, f, l, s, h1, h2, h3, h => ⟨h, by show f < _; omega, Nat.le_refl _, Nat.le_add_right _ _⟩
  | m + 1, f, l, s, h1, h2, h3, h => by
    by_cases e : f = l
    · have ec : cutF ns k wide (m + 1) f l s = (f, s) := by rw [cutF, if_pos e]
      rw [ec]
      exact ⟨h, by show f < _ + _; omega, Nat.le_refl _, Nat.le_add_right _ _⟩
    · cases el : look s.kv (f, l) with
      | some x =>
        have ec : cutF ns k wide (m + 1) f l s = (x, s) := by rw [cutF, if_neg e, el]
        rw [ec]
        obtain ⟨q, hq, e2⟩ := look_mem el
        exact ⟨h, by show x < _; rw [← e2]; exact h.kv q hq, Nat.le_refl _, Nat.le_add_right _ _⟩
      | none =>
        obtain ⟨c1, c2⟩ := cutAt_lt (ns := ns) (k := k) (show f < l by omega)
        obtain ⟨a1, a2, a3, a4⟩ := cutF_ok ns k wide m f (cutAt ns k f l) s (by omega) c1 (by omega) h
        obtain ⟨b1, b2, b3, b4⟩ := cutF_ok ns k wide m (cutAt ns k f l + 1) l (cutF ns k wide m f (cutAt ns k f l) s).2 (by omega) (by omega) h3 a1
        rw [cutF_none e el]
        revert b1 b2 b3 b4
        generalize cutF ns k wide m (cutAt ns k f l + 1) l (cutF ns k wide m f (cutAt ns k f l) s).2 = B
        revert a1 a2 a3 a4
        generalize cutF ns k wide m f (cutAt ns k f l) s = A
        intro a1 a2 a3 a4 b1 b2 b3 b4
        have eL : (cutS wide f l A.1 B).2.st.length = B.2.st.length + 1 := by
          show (B.2.st ++ [(A.1, B.1)]).length = _
          rw [List.length_append]
          rfl
        refine ⟨⟨fun j p hj => ?_, fun q hq => ?_, ?_⟩, ?_, ?_, ?_⟩
        · have hj : (B.2.st ++ [(A.1, B.1)])[j]? = some p := hj
          by_cases hl : j < B.2.st.length
          · rw [List.getElem?_append_left hl] at hj
            exact b1.st j p hj
          · rw [List.getElem?_append_right (by omega)] at hj
            cases e3 : j - B.2.st.length with
            | zero =>
              rw [e3] at hj
              have hj' : (A.1, B.1) = p := Option.some.inj hj
              subst hj'
              show A.1 < _ ∧ B.1 < _
              omega
            | succ i => rw [e3] at hj; cases hj
        · have hq : q ∈ put B.2.kv (f, l) (wide + B.2.st.length) := hq
          rw [eL]
          rcases put_mem hq with hq | hq
          · have := b1.kv q hq
            omega
          · omega
        · rw [eL]
          have h6 : (cutS wide f l A.1 B).2.kv.length ≤ B.2.kv.length + 1 := put_len (f, l) (wide + B.2.st.length) B.2.kv
          have := b1.ln
          omega
        · rw [eL]
          show wide + B.2.st.length < _
          omega
        · rw [eL]; omega
        · rw [eL]; omega
/-- a net of stretches from the first thing on -/
def rWide (ns : List Int) (k most : Nat) : Nat := 1 + mixN ns k % most
def rStep (ns : List Int) (k most : Nat) (s : CS) (l : Nat) : CS := (cutF ns (k + 1) (rWide ns k most) most 0 l s).2
def rOut (ns : List Int) (k most : Nat) (s : CS) (l : Nat) : Nat := (cutF ns (k + 1) (rWide ns k most) most 0 l s).1
def foldT {α β γ : Type} (g : γ → α → γ) (o : γ → α → β) : γ → List α → List β
  | _, [] => []
  | b, a :: l => o b a :: foldT g o (g b a) l
theorem foldO_map {α β γ : Type} (g : γ → α → γ) (o : γ → α → β) (f : β → D) : ∀ (l : List α) (b : γ), foldO g (fun b a => f (o b a)) b l = (foldT g o b l).map f
  | [], _ => rfl
  | a :: l, b => by rw [foldO, foldT, List.map_cons, foldO_map g o f l]
theorem foldT_len {α β γ : Type} (g : γ → α → γ) (o : γ → α → β) : ∀ (l : List α) (b : γ), (foldT g o b l).length = l.length
  | [], _ => rfl
  | _ :: l, b => by rw [foldT, List.length_cons, List.length_cons, foldT_len g o l]
def rEnd (ns : List Int) (k most : Nat) : CS := (List.range (rWide ns k most)).foldl (rStep ns k most) ⟨[], []⟩
def rightN (ns : List Int) (k most : Nat) : Nt := ⟨rWide ns k most, (rEnd ns k most).st, foldT (rStep ns k most) (rOut ns k most) ⟨[], []⟩ (List.range (rWide ns k most))⟩
theorem rWide_le {ns : List Int} {k most : Nat} (h : 1 ≤ most) : 1 ≤ rWide ns k most ∧ rWide ns k most ≤ most := by
  have := Nat.mod_lt (mixN ns k) h
  unfold rWide
  omega
theorem right_fold (ns : List Int) (k most : Nat) (h : 1 ≤ most) : ∀ (l : List Nat) (s : CS), (∀ x ∈ l, x < rWide ns k most) → s.ok (rWide ns k most) →
    (l.foldl (rStep ns k most) s).ok (rWide ns k most) ∧ s.st.length ≤ (l.foldl (rStep ns k most) s).st.length ∧ (l.foldl (rStep ns k most) s).st.length ≤ s.st.length + l.length * most ∧ ∀ o ∈ foldT (rStep ns k most) (rOut ns k most) s l, o < rWide ns k most + (l.foldl (rStep ns k most) s).st.length
  | [], s, _, h => ⟨h, Nat.le_refl _, by simp, fun _ z => nomatch z⟩
  | x :: l, s, hx, hs => by
    have hw := (rWide_le (ns := ns) (k := k) h).2
    have hx0 := hx x List.mem_cons_self
    obtain ⟨c1, c2, c3, c4⟩ := cutF_ok ns (k + 1) (rWide ns k most) most 0 x s (by omega) (Nat.zero_le _) hx0 hs
    obtain ⟨d1, d2, d3, d4⟩ := right_fold ns k most h l (rStep ns k most s x) (fun y hy => hx y (List.mem_cons_of_mem _ hy)) c1
    have e1 : (rStep ns k most s x).st.length ≤ s.st.length + x := by unfold rStep; omega
    have e2 : s.st.length ≤ (rStep ns k most s x).st.length := c3
    rw [List.foldl_cons]
    refine ⟨d1, by omega, ?_, fun o ho => ?_⟩
    · rw [List.length_cons, Nat.succ_mul]
      omega
    · rcases List.mem_cons.mp ho with rfl | ho
      · have : rOut ns k most s x < rWide ns k most + (rStep ns k most s x).st.length := c2
        omega
      · exact d4 o ho
theorem rightN_good {ns : List Int} {k most : Nat} (h : 1 ≤ most) (h2 : most ≤ 20) : (rightN ns k most).good ∧ (rightN ns k most).steps.length ≤ most * most := by
  obtain ⟨w1, w2⟩ := rWide_le (ns := ns) (k := k) h
  obtain ⟨d1, _, d3, d4⟩ := right_fold ns k most h (List.range (rWide ns k most)) ⟨[], []⟩ (fun x hx => List.mem_range.mp hx) ⟨(fun j p e => by simp at e), (fun q hq => nomatch hq), Nat.le_refl _⟩
  rw [List.length_range] at d3
  have d3' : (rEnd ns k most).st.length ≤ rWide ns k most * most := by
    have : (rEnd ns k most).st.length ≤ 0 + rWide ns k most * most := d3
    omega
  have m1 : rWide ns k most * most ≤ most * most := Nat.mul_le_mul_right _ w2
  have m2 : most * most ≤ 20 * 20 := Nat.mul_le_mul h2 h2
  refine ⟨⟨w1, by show rWide ns k most ≤ 64; omega, by show (rEnd ns k most).st.length ≤ 500; omega, ?_, d1.st, d4⟩, by show (rEnd ns k most).st.length ≤ _; omega⟩
  show (foldT _ _ _ _).length = rWide ns k most
  rw [foldT_len, List.length_range]
end Sm

namespace Sm
open PySem L2 DL
abbrev Ps := List (Nat × Nat)
/-- the nodes of n steps more -/
def nodesS (w : Nat) (st : Ps) (n : Nat) : List Nat := (List.range n).map fun i => w + st.length + i
theorem nodesS_len (w : Nat) (st : Ps) (n : Nat) : (nodesS w st n).length = n := by rw [nodesS, List.length_map, List.length_range]
theorem nodesS_succ (w : Nat) (st : Ps) (p : Nat × Nat) (n : Nat) : (w + st.length) :: nodesS w (st ++ [p]) n = nodesS w st (n + 1) := by
  unfold nodesS
  rw [List.range_succ_eq_map, List.map_cons, List.map_map]
  congr 1
  refine List.map_congr_left fun i _ => ?_
  rw [List.length_append]
  show w + (st.length + 1) + i = w + st.length + (i + 1)
  omega
def addS {α : Type} (g : α → Nat × Nat) (st : Ps) (k : α) : Ps := st ++ [g k]
theorem addS_fold {α : Type} (g : α → Nat × Nat) : ∀ (ks : List α) (st : Ps), ks.foldl (addS g) st = st ++ ks.map g := fun ks st => foldl_snoc g ks st
theorem nodeS_fold {α : Type} (g : α → Nat × Nat) (w : Nat) : ∀ (ks : List α) (st : Ps), foldO (addS g) (fun st _ => eN (w + st.length)) st ks = (nodesS w st ks.length).map eN
  | [], _ => rfl
  | k :: ks, st => by
    rw [foldO, nodeS_fold g w ks, List.length_cons, ← nodesS_succ w st (g k) ks.length, List.map_cons]
    rfl
/-- a node more, a step more -/
def pairS {α : Type} (w : Nat) (g : α → Nat × Nat) (p : List Nat × Ps) (k : α) : List Nat × Ps := (p.1 ++ [w + p.2.length], p.2 ++ [g k])
theorem pair_fold {α : Type} (w : Nat) (g : α → Nat × Nat) : ∀ (ks : List α) (l : List Nat) (st : Ps), ks.foldl (pairS w g) (l, st) = (l ++ nodesS w st ks.length, st ++ ks.map g)
  | [], l, st => by simp [nodesS]
  | k :: ks, l, st => by
    rw [List.foldl_cons]
    show ks.foldl (pairS w g) (l ++ [w + st.length], st ++ [g k]) = _
    rw [pair_fold w g ks, List.length_cons, ← nodesS_succ w st (g k) ks.length, List.map_cons, List.append_assoc, List.append_assoc]
    rfl
def lastN (l : List Nat) : Nat := l.getD (l.length - 1) 0
/-- one behind the other -/
def linF (w : Nat) (p : List Nat × Ps) (one : Nat) : List Nat × Ps := if p.1 = [] then (p.1 ++ [one], p.2) else (p.1 ++ [w + p.2.length], p.2 ++ [(lastN p.1, one)])
def lineF (w : Nat) (so : List Nat) (st : Ps) : List Nat × Ps := so.foldl (linF w) ([], st)
theorem linF_len (w : Nat) (p : List Nat × Ps) (one : Nat) : (linF w p one).1.length = p.1.length + 1 ∧ (linF w p one).2.length ≤ p.2.length + 1 := by
  unfold linF
  split
  · exact ⟨by rw [List.length_append]; rfl, Nat.le_succ _⟩
  · exact ⟨by rw [List.length_append]; rfl, by rw [List.length_append]; exact Nat.le_refl _⟩
/-- by halves -/
def joinH (w : Nat) (A : List Nat) (B : List Nat × Ps) : List Nat × Ps := (A ++ nodesS w B.2 B.1.length, B.2 ++ B.1.map fun one => (lastN A, one))
def halvesF (w : Nat) : Nat → List Nat → Ps → List Nat × Ps
  | 0, so, st => (so, st)
  | m + 1, so, st => if so.length < 2 then (so, st) else joinH w (halvesF w m (so.take ((so.length + 1) / 2)) st).1 (halvesF w m (so.drop ((so.length + 1) / 2)) (halvesF w m (so.take ((so.length + 1) / 2)) st).2)
theorem halves_len (w : Nat) : ∀ (m : Nat) (so : List Nat) (st : Ps), (halvesF w m so st).1.length = so.length ∧ (halvesF w m so st).2.length ≤ st.length + m * so.length
  | 0, so, st => ⟨rfl, Nat.le_add_right _ _⟩
  | m + 1, so, st => by
    unfold halvesF
    split
    · exact ⟨rfl, Nat.le_add_right _ _⟩
    · obtain ⟨a1, a2⟩ := halves_len w m (so.take ((so.length + 1) / 2)) st
      obtain ⟨b1, b2⟩ := halves_len w m (so.drop ((so.length + 1) / 2)) (halvesF w m (so.take ((so.length + 1) / 2)) st).2
      unfold joinH
      rw [List.length_take] at a1 a2
      rw [List.length_drop] at b1 b2
      refine ⟨?_, ?_⟩
      · dsimp only
        rw [List.length_append, nodesS_len, a1, b1]
        omega
      · dsimp only
        rw [List.length_append, List.length_map, b1, Nat.succ_mul]
        have e : m * so.length = m * min ((so.length + 1) / 2) so.length + m * (so.length - (so.length + 1) / 2) := by
          rw [← Nat.mul_add]
          congr 1
          omega
        omega
/-- by strides -/
def stepSt (f : List Nat) (s i : Nat) : Nat × Nat := (f.getD (s + i - s) 0, f.getD (s + i) 0)
def strideF (w n : Nat) : Nat → Nat → List Nat → Ps → List Nat × Ps
  | 0, _, f, st => (f, st)
  | m + 1, s, f, st => if s < n then strideF w n m (2 * s) (f.take s ++ nodesS w st (n - s)) (st ++ (List.range (n - s)).map (stepSt f s)) else (f, st)
/-- up and down -/
def upSt (so : List Nat) (i : Nat) : Nat × Nat := (so.getD (2 * i) 0, so.getD (2 * i + 1) 0)
def upF (w : Nat) (so sums : List Nat) (p : List Nat × Ps) (i : Nat) : List Nat × Ps :=
  if (1 + i) % 2 = 1 then (p.1 ++ [sums.getD ((1 + i) / 2) 0], p.2) else (p.1 ++ [w + p.2.length], p.2 ++ [(sums.getD ((1 + i) / 2 - 1) 0, so.getD (1 + i) 0)])
def upEnd (w : Nat) (so : List Nat) (S : List Nat × Ps) : List Nat × Ps := (List.range (so.length - 1)).foldl (upF w so S.1) ([so.getD 0 0], S.2)
def updownF (w : Nat) : Nat → List Nat → Ps → List Nat × Ps
  | 0, so, st => (so, st)
  | m + 1, so, st => if so.length < 2 then (so, st) else upEnd w so (updownF w m (nodesS w st (so.length / 2)) (st ++ (List.range (so.length / 2)).map (upSt so)))
theorem upF_len (w : Nat) (so sums : List Nat) (p : List Nat × Ps) (i : Nat) : (upF w so sums p i).1.length = p.1.length + 1 ∧ (upF w so sums p i).2.length ≤ p.2.length + 1 - (1 + i) % 2 := by
  unfold upF
  split
  · rename_i h
    exact ⟨by rw [List.length_append]; rfl, by rw [h]; exact Nat.le_refl _⟩
  · rename_i h
    have h : (1 + i) % 2 = 0 := by omega
    exact ⟨by rw [List.length_append]; rfl, by rw [h, List.length_append]; exact Nat.le_refl _⟩
theorem ups_len (w : Nat) (so sums : List Nat) (p : List Nat × Ps) : ∀ m : Nat, ((List.range m).foldl (upF w so sums) p).1.length = p.1.length + m ∧ ((List.range m).foldl (upF w so sums) p).2.length ≤ p.2.length + m / 2
  | 0 => ⟨rfl, Nat.le_add_right _ _⟩
  | m + 1 => by
    obtain ⟨a1, a2⟩ := ups_len w so sums p m
    rw [List.range_succ, List.foldl_append]
    obtain ⟨b1, b2⟩ := upF_len w so sums ((List.range m).foldl (upF w so sums) p) m
    refine ⟨by show (upF w so sums _ m).1.length = _; rw [b1, a1]; omega, ?_⟩
    show (upF w so sums _ m).2.length ≤ _
    omega
theorem updown_len (w : Nat) : ∀ (m : Nat) (so : List Nat) (st : Ps), (updownF w m so st).1.length = so.length ∧ (updownF w m so st).2.length ≤ st.length + m * so.length
  | 0, so, st => ⟨rfl, Nat.le_add_right _ _⟩
  | m + 1, so, st => by
    unfold updownF
    split
    · exact ⟨rfl, Nat.le_add_right _ _⟩
    · obtain ⟨a1, a2⟩ := updown_len w m (nodesS w st (so.length / 2)) (st ++ (List.range (so.length / 2)).map (upSt so))
      unfold upEnd
      obtain ⟨b1, b2⟩ := ups_len w so (updownF w m (nodesS w st (so.length / 2)) (st ++ (List.range (so.length / 2)).map (upSt so))).1 ([so.getD 0 0], (updownF w m (nodesS w st (so.length / 2)) (st ++ (List.range (so.length / 2)).map (upSt so))).2) (so.length - 1)
      rw [List.length_append, List.length_map, List.length_range, nodesS_len] at a2
      refine ⟨?_, ?_⟩
      · rw [b1]
        show 1 + _ = _
        omega
      · have e : m * (so.length / 2) ≤ m * so.length := Nat.mul_le_mul_left _ (by omega)
        rw [Nat.succ_mul]
        dsimp only at b2
        omega
/-- the known nets -/
def kn (j w : Nat) : List Nat × Ps := match j with
  | 0 => lineF w (List.range w) []
  | 1 => halvesF w 6 (List.range w) []
  | 2 => strideF w w w 1 (List.range w) []
  | _ => updownF w 6 (List.range w) []
def knownN (j w : Nat) : Nt := ⟨w, (kn j w).2, (kn j w).1⟩
def wordS (j : Nat) : Str := ["line", "halves", "strides", "updown"].getD j ""
/-! ### looked at -/
def stB (w : Nat) : Nat → Ps → Bool
  | _, [] => true
  | k, p :: r => (decide (p.1 < w + k) && decide (p.2 < w + k)) && stB w (k + 1) r
def goodB (n : Nt) : Bool := (decide (1 ≤ n.wide) && decide (n.wide ≤ 64)) && ((decide (n.steps.length ≤ 500) && decide (n.outs.length = n.wide)) && (stB n.wide 0 n.steps && n.outs.all fun o => decide (o < n.wide + n.steps.length)))
theorem stB_ok {w : Nat} : ∀ {k : Nat} {l : Ps}, stB w k l = true → ∀ (i : Nat) (p : Nat × Nat), l[i]? = some p → p.1 < w + (k + i) ∧ p.2 < w + (k + i)
  | k, [], _, i, p, e => by simp at e
  | k, q :: r, h, 0, p, e => by
    have e : q = p := by simpa using e
    subst e
    rw [stB, Bool.and_eq_true, Bool.and_eq_true] at h
    exact ⟨of_decide_eq_true h.1.1, of_decide_eq_true h.1.2⟩
  | k, q :: r, h, i + 1, p, e => by
    rw [stB, Bool.and_eq_true] at h
    have := stB_ok h.2 i p (by simpa using e)
    omega
theorem goodB_ok {n : Nt} (h : goodB n = true) : n.good := by
  unfold goodB at h
  simp only [Bool.and_eq_true] at h
  obtain ⟨⟨h1, h2⟩, ⟨h3, h4⟩, h5, h6⟩ := h
  refine ⟨of_decide_eq_true h1, of_decide_eq_true h2, of_decide_eq_true h3, of_decide_eq_true h4, fun k p hp => ?_, fun o ho => of_decide_eq_true (List.all_eq_true.mp h6 o ho)⟩
  have := stB_ok h5 k p hp
  omega
/-- the least depth -/
def ldF (w : Nat) : Nat → Nat → Nat → Nat
  | 0, _, found => found
  | m + 1, many, found => if many < w then ldF w m (2 * many) (found + 1) else found
def leastD (w : Nat) : Nat := ldF w w 1 0
end Sm

namespace Sm
open PySem L2 DL
theorem cut_take {α : Type} (l : List α) (k : Nat) : cutG l none (some (k : Int)) = l.take k := by
  unfold cutG
  rw [HT.sIx_none, HT.sIx_nat, Nat.sub_zero, List.drop_zero]
  by_cases h : k ≤ l.length
  · rw [Nat.min_eq_left h]
  · rw [Nat.min_eq_right (by omega), List.take_length, List.take_of_length_le (by omega)]
theorem cut_drop {α : Type} (l : List α) (k : Nat) : cutG l (some (k : Int)) none = l.drop k := by
  unfold cutG
  rw [HT.sIx_none, HT.sIx_nat]
  by_cases h : k ≤ l.length
  · rw [Nat.min_eq_left h, List.take_of_length_le (by rw [List.length_drop]; omega)]
  · rw [Nat.min_eq_right (by omega), List.drop_of_length_le (Nat.le_refl _), List.drop_of_length_le (by omega)]
    simp
theorem cut_init {α : Type} (l : List α) : cutG l none (some (-1)) = l.take (l.length - 1) := by
  unfold cutG
  rw [HT.sIx_none, Nat.sub_zero, List.drop_zero]
  congr 1
  unfold HT.sIx
  simp
  omega
end Sm

namespace Sm
open PySem L2 DL
theorem set_cut {α : Type} {l : List α} {i : Nat} (x : α) (h : i < l.length) : l.take i ++ [x] ++ l.drop (i + 1) = l.set i x := by
  rw [List.set_eq_take_append_cons_drop, if_pos h, List.append_assoc]
  rfl
def bendAt (n : Nt) (num : Nat) : Nat := num / 8 % max 1 n.steps.length
def bendStep (n : Nt) (num : Nat) : Nat × Nat :=
  [((n.steps.getD (bendAt n num) (0, 0)).1, num / 64 % (n.wide + bendAt n num)), (num / 64 % (n.wide + bendAt n num), (n.steps.getD (bendAt n num) (0, 0)).2), ((n.steps.getD (bendAt n num) (0, 0)).2, (n.steps.getD (bendAt n num) (0, 0)).1)].getD (num / 4096 % 3) (0, 0)
/-- a net bent -/
def bentN (n : Nt) (num : Nat) : Nt :=
  if num % 8 = 0 ∧ n.steps ≠ [] then ⟨n.wide, n.steps.set (bendAt n num) (bendStep n num), n.outs⟩
  else if num % 8 = 1 then ⟨n.wide, n.steps, n.outs.set (num / 8 % n.wide) (num / 64 % (n.wide + n.steps.length))⟩
  else if num % 8 = 2 then ⟨n.wide, n.steps ++ [(num / 64 % (n.wide + n.steps.length), num / 8 % n.wide)], n.outs⟩
  else n
theorem bendAt_lt {n : Nt} {num : Nat} (h : n.steps ≠ []) : bendAt n num < n.steps.length := by
  have hp : 0 < n.steps.length := List.length_pos_iff.mpr h
  have e : max 1 n.steps.length = n.steps.length := by omega
  unfold bendAt
  rw [e]
  exact Nat.mod_lt _ hp
theorem bendStep_lt {n : Nt} {num : Nat} (hg : n.good) (h : n.steps ≠ []) : (bendStep n num).1 < n.wide + bendAt n num ∧ (bendStep n num).2 < n.wide + bendAt n num := by
  have hl := bendAt_lt (num := num) h
  have hp : n.steps[bendAt n num]? = some (n.steps.getD (bendAt n num) (0, 0)) := by rw [List.getD_eq_getElem?_getD, List.getElem?_eq_getElem hl]; rfl
  obtain ⟨h1, h2⟩ := hg.st _ _ hp
  have h3 := Nat.mod_lt (num / 64) (show n.wide + bendAt n num > 0 by have := hg.w1; omega)
  have q3 := Nat.mod_lt (num / 4096) (show 3 > 0 by decide)
  unfold bendStep
  revert q3
  generalize num / 4096 % 3 = i
  intro q3
  match i, q3 with
  | 0, _ => exact ⟨h1, h3⟩
  | 1, _ => exact ⟨h3, h2⟩
  | 2, _ => exact ⟨h2, h1⟩
theorem bentN_good {n : Nt} (hg : n.good) (hl : n.steps.length ≤ 400) (num : Nat) : (bentN n num).good ∧ (bentN n num).wide = n.wide ∧ (bentN n num).steps.length ≤ n.steps.length + 1 := by
  have w1 := hg.w1
  have lo := hg.lo
  unfold bentN
  split
  · rename_i h
    obtain ⟨b1, b2⟩ := bendStep_lt (num := num) hg h.2
    have hal := bendAt_lt (num := num) h.2
    refine ⟨⟨hg.w1, hg.w2, by rw [List.length_set]; exact hg.ls, hg.lo, fun k p hp => ?_, fun o ho => by rw [List.length_set]; exact hg.os o ho⟩, rfl, by rw [List.length_set]; omega⟩
    dsimp only at hp
    by_cases e : bendAt n num = k
    · subst e
      rw [List.getElem?_set_self hal] at hp
      cases hp
      exact ⟨b1, b2⟩
    · rw [List.getElem?_set_ne e] at hp
      exact hg.st k p hp
  · split
    · have h3 := Nat.mod_lt (num / 64) (show n.wide + n.steps.length > 0 by omega)
      refine ⟨⟨hg.w1, hg.w2, hg.ls, by dsimp only; rw [List.length_set]; exact hg.lo, hg.st, fun o ho => ?_⟩, rfl, Nat.le_succ _⟩
      rcases List.mem_or_eq_of_mem_set ho with ho | rfl
      · exact hg.os o ho
      · exact h3
    · split
      · have h3 := Nat.mod_lt (num / 64) (show n.wide + n.steps.length > 0 by omega)
        have h4 := Nat.mod_lt (num / 8) (show n.wide > 0 by omega)
        refine ⟨⟨hg.w1, hg.w2, by dsimp only; rw [List.length_append]; show _ + 1 ≤ 500; omega, hg.lo, fun k p hp => ?_, fun o ho => ?_⟩, rfl, by dsimp only; rw [List.length_append]; exact Nat.le_refl _⟩
        · dsimp only at hp
          by_cases hk : k < n.steps.length
          · rw [List.getElem?_append_left hk] at hp
            exact hg.st k p hp
          · rw [List.getElem?_append_right (by omega)] at hp
            cases e : k - n.steps.length with
            | zero =>
              rw [e] at hp
              have hp' : (num / 64 % (n.wide + n.steps.length), num / 8 % n.wide) = p := Option.some.inj hp
              subst hp'
              have ek : k = n.steps.length := by omega
              subst ek
              exact ⟨h3, by show num / 8 % n.wide < n.wide + _; omega⟩
            | succ i => rw [e] at hp; cases hp
        · have := hg.os o ho
          dsimp only
          rw [List.length_append]
          show o < n.wide + (_ + 1)
          omega
      · exact ⟨hg, rfl, Nat.le_succ _⟩
end Sm

namespace Sm
open PySem L2 DL
def eO : Option (Nat × Nat) → D
  | none => .non
  | some p => eP p
def eL (l : List Nat) : D := .lst (l.map eN)
theorem inj_eL : Inj eL := inj_lst inj_eN
def joinS : Option (Nat × Nat) → Option (Nat × Nat) → Option (Nat × Nat)
  | some a, some b => if a.2 + 1 = b.1 then some (a.1, b.2) else none
  | _, _ => none
def spF (l : List (Option (Nat × Nat))) (p : Nat × Nat) : List (Option (Nat × Nat)) := l ++ [joinS (l.getD p.1 none) (l.getD p.2 none)]
def spans0 (w : Nat) : List (Option (Nat × Nat)) := (List.range w).map fun x => some (x, x)
/-- for each node the stretch that it is, if it is one -/
def Nt.spans (n : Nt) : List (Option (Nat × Nat)) := n.steps.foldl spF (spans0 n.wide)
theorem spF_len (ps : List (Nat × Nat)) : ∀ l, (ps.foldl spF l).length = l.length + ps.length := by
  induction ps with
  | nil => intro l; rfl
  | cons p r ih => intro l; rw [List.foldl_cons, ih, spF, List.length_append, List.length_cons]; simp; omega
theorem Nt.spans_len (n : Nt) : n.spans.length = n.wide + n.steps.length := by rw [Nt.spans, spF_len, spans0, List.length_map, List.length_range]
def unitN (w t : Nat) : List Nat := (List.range w).map fun one => if one = t then 1 else 0
def addR (w : Nat) (a b : List Nat) : List Nat := (List.range w).map fun k => a.getD k 0 + b.getD k 0
def cntF (w : Nat) (l : List (List Nat)) (p : Nat × Nat) : List (List Nat) := l ++ [addR w (l.getD p.1 []) (l.getD p.2 [])]
def cnts0 (w : Nat) : List (List Nat) := (List.range w).map (unitN w)
/-- for each node how often it has each thing -/
def Nt.cnts (n : Nt) : List (List Nat) := n.steps.foldl (cntF n.wide) (cnts0 n.wide)
theorem cntF_len (w : Nat) (ps : List (Nat × Nat)) : ∀ l, (ps.foldl (cntF w) l).length = l.length + ps.length := by
  induction ps with
  | nil => intro l; rfl
  | cons p r ih => intro l; rw [List.foldl_cons, ih, cntF, List.length_append, List.length_cons]; simp; omega
theorem Nt.cnts_len (n : Nt) : n.cnts.length = n.wide + n.steps.length := by rw [Nt.cnts, cntF_len, cnts0, List.length_map, List.length_range]
theorem cntF_row (w : Nat) (ps : List (Nat × Nat)) : ∀ l : List (List Nat), (∀ r ∈ l, r.length = w) → ∀ r ∈ ps.foldl (cntF w) l, r.length = w := by
  induction ps with
  | nil => intro l h; exact h
  | cons p r ih =>
    intro l h
    rw [List.foldl_cons]
    refine ih _ fun r hr => ?_
    rcases List.mem_append.mp hr with hr | hr
    · exact h r hr
    · rw [List.mem_singleton.mp hr, addR, List.length_map, List.length_range]
theorem cnts0_row (w : Nat) : ∀ r ∈ cnts0 w, r.length = w := fun r hr => by
  obtain ⟨t, _, rfl⟩ := List.mem_map.mp hr
  rw [unitN, List.length_map, List.length_range]
theorem Nt.cnts_row (n : Nt) : ∀ r ∈ n.cnts, r.length = n.wide := cntF_row _ _ _ (cnts0_row _)
theorem getD_mem {α : Type} {l : List α} {i : Nat} (d : α) (h : i < l.length) : l.getD i d ∈ l := by
  rw [List.getD_eq_getElem?_getD, List.getElem?_eq_getElem h]
  exact List.getElem_mem h
def uptoN (w k : Nat) : List Nat := (List.range w).map fun t => if t ≤ k then 1 else 0
/-- out k does not tell its sum, for a kind -/
def badOut (n : Nt) (s : Str) (k : Nat) : Bool :=
  (decide (s = "any") && !decide (n.spans.getD (n.outs.getD k 0) none = some (0, k))) || ((decide (s = "commuting") && !decide (n.cnts.getD (n.outs.getD k 0) [] = uptoN n.wide k)) || (decide (s = "greatest") && !decide ((n.cnts.getD (n.outs.getD k 0) []).map (fun x => decide (0 < x)) = (List.range n.wide).map fun t => decide (t ≤ k))))
def wrongN (n : Nt) (s : Str) : Option Nat := (List.range n.wide).find? (badOut n s)
theorem find_at {p : Nat → Bool} {m k : Nat} (hk : k < m) (h1 : ∀ j, j < k → p j = false) (h2 : p k = true) : (List.range m).find? p = some k := by
  have e : List.range m = List.range k ++ (k :: (List.range' (k + 1) (m - k - 1))) := by
    rw [List.range_eq_range', List.range_eq_range']
    have : m = k + (1 + (m - k - 1)) := by omega
    conv => lhs; rw [this]
    rw [← List.range'_append_1, Nat.zero_add, Nat.add_comm 1, List.range'_succ]
  rw [e, List.find?_append]
  have z : (List.range k).find? p = none := List.find?_eq_none.mpr fun x hx => by rw [h1 x (List.mem_range.mp hx)]; exact Bool.false_ne_true
  rw [z, List.find?_cons, h2]
  rfl
theorem find_no {p : Nat → Bool} {m : Nat} (h1 : ∀ j, j < m → p j = false) : (List.range m).find? p = none := List.find?_eq_none.mpr fun x hx => by rw [h1 x (List.mem_range.mp hx)]; exact Bool.false_ne_true
theorem inj_eO : Inj eO := fun x y => by
  cases x with
  | none => cases y with
    | none => rfl
    | some q => rfl
  | some p => cases y with
    | none => rfl
    | some q =>
      have h := inj_eP p q
      show D.eqv (eP p) (eP q) = _
      rw [h, decide_eq_decide]
      exact ⟨fun z => by rw [z], fun z => Option.some.inj z⟩
theorem sh_eO (n : Nat) (p : Option (Nat × Nat)) : Sh (n + 1) (eO p) := by
  cases p with
  | none => exact sh_non _
  | some p => exact sh_eP n p
theorem b2i_eN (b : Bool) : D.int (b2i b) = eN (if b = true then 1 else 0) := by cases b <;> rfl
/-- the row that shows that an out is not its sum -/
def brkBad (n : Nt) (s : Str) (out : Nat) : List Nat := (List.range n.wide).filter fun t => if s = "greatest" then !decide (decide (0 < (n.cnts.getD (n.outs.getD out 0) []).getD t 0) = decide (t ≤ out)) else !decide ((n.cnts.getD (n.outs.getD out 0) []).getD t 0 = if t ≤ out then 1 else 0)
def thingS (t : Nat) : Str := "a" ++ (toString (t : Int) : Str) ++ "."
theorem thing_small : ∀ t : Nat, t < 64 → (t : Int).natAbs.log2 < 1920 ∧ ("a" : Str).length + (toString (t : Int) : Str).length ≤ 1000 ∧ (("a" : Str) ++ (toString (t : Int) : Str)).length + ("." : Str).length ≤ 1000 ∧ PyData.strOk (thingS t) = true := by decide +kernel
def brkN (n : Nt) (s : Str) (out : Nat) : D := if s = "any" then .lst ((List.range n.wide).map fun t => .str (thingS t)) else eL (unitN n.wide ((brkBad n s out).getD 0 0))
def judgN (n : Nt) (s : Str) : D := match wrongN n s with
  | none => .tup [.str "right"]
  | some k => .tup [.str "wrong", eN k, brkN n s k]
theorem ext_getD2 {α : Type} {l m : List α} (d : α) (h : l.length = m.length) (h2 : ∀ x, x < l.length → l.getD x d = m.getD x d) : l = m := by
  refine List.ext_getElem h fun i h1 h3 => ?_
  have := h2 i h1
  rw [List.getD_eq_getElem?_getD, List.getD_eq_getElem?_getD, List.getElem?_eq_getElem h1, List.getElem?_eq_getElem h3] at this
  exact this
theorem getD_mapR {α : Type} (f : Nat → α) {m x : Nat} (d : α) (h : x < m) : ((List.range m).map f).getD x d = f x := by
  rw [List.getD_eq_getElem?_getD, List.getElem?_map, List.getElem?_range h]
  rfl
theorem getD_map {α β : Type} (f : α → β) {d : β} {d0 : α} {l : List α} {t : Nat} (h : t < l.length) : (l.map f).getD t d = f (l.getD t d0) := by
  rw [List.getD_eq_getElem?_getD, List.getElem?_map, List.getD_eq_getElem?_getD, List.getElem?_eq_getElem h]
  rfl
theorem bnot_dec {p : Prop} [Decidable p] (h : (!decide p) = true) : ¬ p := fun z => by rw [decide_eq_true z] at h; cases h
theorem bnot_decF {p : Prop} [Decidable p] (h : (!decide p) = false) : p := by
  by_cases z : p
  · exact z
  · rw [decide_eq_false z] at h; cases h
/-- a wrong out has a thing that shows it -/
theorem brk_some {n : Nt} (hg : n.good) {s : Str} {k : Nat} (hs : s ≠ "any") (h : wrongN n s = some k) : brkBad n s k ≠ [] := fun e => by
  obtain ⟨hb, hk⟩ : badOut n s k = true ∧ k < n.wide := ⟨List.find?_some h, List.mem_range.mp (List.mem_of_find?_eq_some h)⟩
  have ho : n.outs.getD k 0 < n.wide + n.steps.length := hg.os _ (getD_mem 0 (by rw [hg.lo]; exact hk))
  have hr : (n.cnts.getD (n.outs.getD k 0) []).length = n.wide := n.cnts_row _ (getD_mem [] (by rw [n.cnts_len]; exact ho))
  have none_ : ∀ t, t < n.wide → (if s = "greatest" then !decide (decide (0 < (n.cnts.getD (n.outs.getD k 0) []).getD t 0) = decide (t ≤ k)) else !decide ((n.cnts.getD (n.outs.getD k 0) []).getD t 0 = if t ≤ k then 1 else 0)) = false := fun t ht => by
    cases q : (if s = "greatest" then !decide (decide (0 < (n.cnts.getD (n.outs.getD k 0) []).getD t 0) = decide (t ≤ k)) else !decide ((n.cnts.getD (n.outs.getD k 0) []).getD t 0 = if t ≤ k then 1 else 0)) with
    | false => rfl
    | true =>
      have m : t ∈ brkBad n s k := List.mem_filter.mpr ⟨List.mem_range.mpr ht, q⟩
      rw [e] at m
      cases m
  unfold badOut at hb
  rw [decide_eq_false hs, Bool.false_and, Bool.false_or, Bool.or_eq_true, Bool.and_eq_true, Bool.and_eq_true] at hb
  rcases hb with ⟨h1, h2⟩ | ⟨h1, h2⟩
  · have es : s = "commuting" := of_decide_eq_true h1
    subst es
    refine absurd (ext_getD2 0 ?_ fun t ht => ?_) (bnot_dec h2)
    · rw [hr, uptoN, List.length_map, List.length_range]
    · rw [hr] at ht
      have := none_ t ht
      rw [if_neg (by decide)] at this
      rw [uptoN, getD_mapR _ _ ht]
      exact bnot_decF this
  · have es : s = "greatest" := of_decide_eq_true h1
    subst es
    refine absurd (ext_getD2 false ?_ fun t ht => ?_) (bnot_dec h2)
    · rw [List.length_map, hr, List.length_map, List.length_range]
    · rw [List.length_map, hr] at ht
      have := none_ t ht
      rw [if_pos rfl] at this
      rw [getD_mapR _ _ ht]
      have e2 := getD_map (fun x => decide (0 < x)) (d := false) (d0 := 0) (l := n.cnts.getD (n.outs.getD k 0) []) (t := t) (by omega)
      rw [e2]
      exact bnot_decF this
end Sm

namespace Sm
open PySem L2 DL
theorem ix_last {α : Type} (f : α → D) {l : List α} (x : α) (h : l ≠ []) : IxD (.lst (l.map f)) (.int (-1)) (f (l.getD (l.length - 1) x)) := by
  have hp : 0 < l.length := List.length_pos_iff.mpr h
  refine .lst ?_
  unfold L2.atI L2.ixN
  rw [List.length_map, if_neg (by omega), if_pos (by omega)]
  have e : ((-1 : Int) + (l.length : Int)).toNat = l.length - 1 := by omega
  rw [e]
  show (l.map f)[l.length - 1]? = _
  rw [List.getElem?_map, List.getElem?_eq_getElem (by omega), List.getD_eq_getElem?_getD, List.getElem?_eq_getElem (by omega)]
  rfl
theorem sh_right (n : Nat) : Sh (n + 1) (.tup [.str "right"]) := show ∀ x ∈ _, Sh n x from sh_cons (by cases n <;> exact (show PyData.strOk _ = true by decide +kernel)) sh_nil
theorem sh_judg {n : Nt} (hw : n.wide ≤ 64) (s : Str) : Sh 2 (judgN n s) := by
  have st : ∀ (m : Nat) (z : Str), PyData.strOk z = true → Sh m (.str z) := fun m z h => by cases m <;> exact h
  have wr : PyData.strOk ("wrong" : Str) = true := by decide +kernel
  unfold judgN
  cases wrongN n s with
  | none => exact sh_right 1
  | some k =>
    refine show ∀ x ∈ _, Sh 1 x from sh_cons (st _ _ wr) (sh_cons (sh_eN _ _) (sh_cons ?_ sh_nil))
    unfold brkN
    split
    · exact sh_lst fun t ht => st 0 _ (thing_small t (by have := List.mem_range.mp ht; omega)).2.2.2
    · exact sh_lst fun x _ => sh_eN 0 x
theorem judg_right (n : Nt) (s : Str) : D.eqv (judgN n s) (.tup [.str "right"]) = (wrongN n s).isNone := by
  unfold judgN
  cases wrongN n s with
  | none => show D.eqv (.tup [.str "right"]) _ = true; rw [eqv_tups, eqvs, eqvs, eqv_str]; rfl
  | some k => show D.eqv (.tup [.str "wrong", eN k, brkN n s k]) _ = false; rw [eqv_tups, eqvs, eqv_str]; rfl
end Sm

namespace Sm
open PySem L2 DL
def depF (l : List Nat) (p : Nat × Nat) : List Nat := l ++ [1 + max (l.getD p.1 0) (l.getD p.2 0)]
/-- the depths of the nodes -/
def Nt.dep (n : Nt) : List Nat := n.steps.foldl depF (List.replicate n.wide 0)
theorem dep_len (steps : List (Nat × Nat)) : ∀ l, (steps.foldl depF l).length = l.length + steps.length := by
  induction steps with
  | nil => intro l; rfl
  | cons p r ih => intro l; rw [List.foldl_cons, ih, depF, List.length_append, List.length_cons]; simp; omega
theorem Nt.dep_len (n : Nt) : n.dep.length = n.wide + n.steps.length := by rw [Nt.dep, Sm.dep_len, List.length_replicate]
def maxN : List Nat → Nat
  | [] => 0
  | x :: r => max x (maxN r)
theorem maxN_ge : ∀ {l : List Nat} {x : Nat}, x ∈ l → x ≤ maxN l
  | y :: r, x, h => by
    rw [maxN]
    rcases List.mem_cons.mp h with rfl | h
    · omega
    · have := maxN_ge h; omega
theorem maxN_mem : ∀ {l : List Nat}, l ≠ [] → maxN l ∈ l
  | [x], _ => by rw [maxN, maxN]; simp
  | x :: y :: r, _ => by
    have ih := maxN_mem (l := y :: r) (by simp)
    rw [maxN]
    by_cases h : x ≤ maxN (y :: r)
    · rw [Nat.max_eq_right h]; exact List.mem_cons_of_mem _ ih
    · rw [Nat.max_eq_left (by omega)]; exact List.mem_cons_self
/-- the depth of a net -/
def Nt.depth (n : Nt) : Nat := maxN (n.outs.map fun o => n.dep.getD o 0)
def setT (l : List Bool) (o : Nat) : List Bool := l.set o true
def usF (n : Nt) (l : List Bool) (i : Nat) : List Bool := if l.getD (n.wide + (n.steps.length - 1 - i)) false = true then [(n.steps.getD (n.steps.length - 1 - i) (0, 0)).1, (n.steps.getD (n.steps.length - 1 - i) (0, 0)).2].foldl setT l else l
def Nt.us0 (n : Nt) : List Bool := n.outs.foldl setT (List.replicate (n.wide + n.steps.length) false)
/-- which nodes are used -/
def Nt.used (n : Nt) : List Bool := (List.range n.steps.length).foldl (usF n) n.us0
theorem setT_len (os : List Nat) : ∀ l, (os.foldl setT l).length = l.length := by
  induction os with
  | nil => intro l; rfl
  | cons o r ih => intro l; rw [List.foldl_cons, ih, setT, List.length_set]
theorem usF_len (n : Nt) (l : List Bool) (i : Nat) : (usF n l i).length = l.length := by
  unfold usF
  split
  · exact setT_len _ _
  · rfl
theorem us0_len (n : Nt) : n.us0.length = n.wide + n.steps.length := by rw [Nt.us0, setT_len, List.length_replicate]
theorem usFs_len (n : Nt) (is : List Nat) : ∀ l, (is.foldl (usF n) l).length = l.length := by
  induction is with
  | nil => intro l; rfl
  | cons o r ih => intro l; rw [List.foldl_cons, ih, usF_len]
theorem Nt.used_len (n : Nt) : n.used.length = n.wide + n.steps.length := by rw [Nt.used, usFs_len, us0_len]
def inc (l : List Nat) (o : Nat) : List Nat := l.set o (l.getD o 0 + 1)
theorem inc_len (os : List Nat) : ∀ l, (os.foldl inc l).length = l.length := by
  induction os with
  | nil => intro l; rfl
  | cons o r ih => intro l; rw [List.foldl_cons, ih, inc, List.length_set]
def incP (l : List Nat) (p : Nat × Nat) : List Nat := [p.1, p.2].foldl inc l
theorem incP_len (ps : List (Nat × Nat)) : ∀ l, (ps.foldl incP l).length = l.length := by
  induction ps with
  | nil => intro l; rfl
  | cons o r ih => intro l; rw [List.foldl_cons, ih, incP, inc_len]
/-- how often each node stands -/
def Nt.fan (n : Nt) : List Nat := n.outs.foldl inc (n.steps.foldl incP (List.replicate (n.wide + n.steps.length) 0))
theorem Nt.fan_len (n : Nt) : n.fan.length = n.wide + n.steps.length := by rw [Nt.fan, inc_len, incP_len, List.length_replicate]
end Sm

namespace Wk
open PySem PySem.Spec PyProof.Rows L2 DL Sm
section
variable {Pg : Program} {w : World} {K : PySem.W.Frag} {mg : Str → Option Value} {base : Heap}
abbrev sDepths : Stmt := topS 18
theorem scDepths : FnScope ["net", "found", "one", "other"] ["net"] (defScope sDepths) := ⟨rfl, rfl, rfl, by decide +kernel, rfl, by decide +kernel, by decide +kernel⟩
theorem fn_depths {f : Addr} {fd : FuncData} (F : Fun K "depths" "depths" sDepths f fd) (hb : Binds K fd ["net"] []) (hm : mg "depths" = some (.ref f)) (T : Bt mg) {cN : Addr} (Flook_net : Fn Pg w K mg base "look_net" 1 1 (pre3 cN)) :
    Fn Pg w K mg base "depths" 1 2 (preN cN fun n => .lst (n.dep.map eN)) := by
  refine fn_ok (ps := ["net"]) F scDepths hb hm preN_len (by decide) fun cdv A outer s H E C ds r h => ?_
  rcases h with ⟨n, hg, rfl, rfl⟩ | ⟨n, hf, hk, rfl, rfl⟩
  · show JB _ _ _ ⟨[.d n.e, .u, .u, .u], []⟩ _
    refine jb_cons (js_expr (je_call C Flook_net (by decide) (jd_cons (je_var 0) jd_nil) (preLook_to (.inl ⟨n, hg, rfl, rfl⟩))) ?_)
    have g1 := hg.w1; have g2 := hg.w2; have g3 := hg.ls
    refine jb_cons (js_new 1 C (jf_rep1 eN 0 n.wide (je_f (jf_lst (jd_cons je_int jd_nil))) (je_ix (je_var 0) je_int (by walk_at "i")) (by omega)) ?_)
    refine jb_cons (js_fold n.steps depF (List.replicate n.wide 0) (fun b => ⟨[.d n.e, .c 0, .u, .u], [.lst (b.map eN)]⟩) (fun i b => b.length = n.wide + i) C (ji_list (je_ix (je_var 0) je_int (by walk_at "i"))) (by rw [List.length_replicate]; rfl) ?_ ?_)
    · intro i a b ha _ hQ
      have h1 := hg.st i a ha
      have hi := (List.getElem?_eq_some_iff.mp ha).1
      have x1 : IxD (.lst (b.map eN)) (.int (a.1 : Nat)) (eN (b.getD a.1 0)) := ix_lst eN 0 (by omega)
      have x2 : IxD (.lst (b.map eN)) (.int (a.2 : Nat)) (eN (b.getD a.2 0)) := ix_lst eN 0 (by omega)
      refine jg_n2 2 3 C ?_
      refine jb_cons (js_app 1 0 (je_view (je_bin je_int (je_max2 C T.max (je_ix (je_var 1) (je_var 2) (by walk_at "i")) (je_ix (je_var 1) (je_var 3) (by walk_at "i"))) (by walk_at "b"))) ?_ ?_)
      · rw [List.length_map, sizeLine_eq]; omega
      refine jb_fin (t := ⟨[.d n.e, .c 0, .u, .u], [.lst ((depF b a).map eN)]⟩) ⟨rfl, ?_⟩ ?_
      · rw [depF, List.length_append, hQ]; rfl
      · unfold depF
        rw [List.map_append]
        exact congrArg (fun z => [Cl.lst (b.map eN ++ [D.int z])]) (show (1 : Int) + max ((b.getD a.1 0 : Nat) : Int) ((b.getD a.2 0 : Nat) : Int) = ((1 + max (b.getD a.1 0) (b.getD a.2 0) : Nat) : Int) by omega)
    · intro _
      refine jb_freeze 1 0 ?_
      exact jb_cons (js_ret (je_var 1) rfl)
  · show JB _ _ _ ⟨[.d n.e, .u, .u, .u], []⟩ _
    exact jb_cons (js_exprE (je_callE C Flook_net (by decide) (jd_cons (je_var 0) jd_nil) (preLook_to (.inr ⟨n, hf, hk, rfl, rfl⟩))) rfl)
abbrev sDepth : Stmt := topS 19
theorem scDepth : FnScope ["net", "some", "out"] ["net"] (defScope sDepth) := ⟨rfl, rfl, rfl, by decide +kernel, rfl, by decide +kernel, by decide +kernel⟩
theorem fn_depth {f : Addr} {fd : FuncData} (F : Fun K "depth" "depth" sDepth f fd) (hb : Binds K fd ["net"] []) (hm : mg "depth" = some (.ref f)) (T : Bt mg) {cN : Addr} (Fdepths : Fn Pg w K mg base "depths" 1 2 (preN cN fun n => .lst (n.dep.map eN))) :
    Fn Pg w K mg base "depth" 1 3 (preN cN fun n => eN n.depth) := by
  refine fn_ok (ps := ["net"]) F scDepth hb hm preN_len (by decide) fun cdv A outer s H E C ds r h => ?_
  rcases h with ⟨n, hg, rfl, rfl⟩ | ⟨n, hf, hk, rfl, rfl⟩
  · show JB _ _ _ ⟨[.d n.e, .u, .u], []⟩ _
    have g1 := hg.w1; have g2 := hg.w2; have g3 := hg.ls; have g4 := hg.lo
    have hl : n.outs.length ≤ sizeLine := by rw [sizeLine_eq]; omega
    refine jb_cons (js_set 1 C (je_call C Fdepths (by decide) (jd_cons (je_var 0) jd_nil) (.inl ⟨n, hg, rfl, rfl⟩)) ?_)
    have hne : n.outs.map (fun o => n.dep.getD o 0) ≠ [] := fun z => by
      have := congrArg List.length z
      rw [List.length_map] at this
      simp at this
      rw [this] at g4
      simp at g4
      omega
    refine jb_cons (js_ret (je_maxL (ns := (n.outs.map fun o => n.dep.getD o 0).map fun x : Nat => (x : Int)) (m := (n.depth : Nat)) C T.max (je_as (je_f (jf_lc C (lc_map (f := fun o => eN (n.dep.getD o 0)) 2 n.outs C (ji_list (je_ix (je_var 0) je_int (by walk_at "i"))) (fun a ha _ _ _ _ _ C => je_ix (je_var 1) (je_var 2) (ix_lst eN 0 (by rw [n.dep_len]; exact hg.os a ha)))))) (by rw [List.map_map, List.map_map]; rfl)) ?_ ?_) rfl)
    · exact List.mem_map.mpr ⟨_, maxN_mem hne, rfl⟩
    · intro y hy
      obtain ⟨x, hx, rfl⟩ := List.mem_map.mp hy
      have := maxN_ge hx
      show (x : Int) ≤ ((maxN _ : Nat) : Int)
      omega
  · show JB _ _ _ ⟨[.d n.e, .u, .u], []⟩ _
    exact jb_cons (js_setE 1 C (je_callE C Fdepths (by decide) (jd_cons (je_var 0) jd_nil) (.inr ⟨n, hf, hk, rfl, rfl⟩)) rfl)
end
end Wk

namespace Wk
open PySem PySem.Spec PyProof.Rows L2 DL Sm
section
variable {Pg : Program} {w : World} {K : PySem.W.Frag} {mg : Str → Option Value} {base : Heap}
abbrev sCounts : Stmt := topS 22
theorem scCounts : FnScope ["net", "found", "thing", "one", "other", "k"] ["net"] (defScope sCounts) := ⟨rfl, rfl, rfl, by decide +kernel, rfl, by decide +kernel, by decide +kernel⟩
theorem fn_counts {f : Addr} {fd : FuncData} (F : Fun K "counts" "counts" sCounts f fd) (hb : Binds K fd ["net"] []) (hm : mg "counts" = some (.ref f)) (T : Bt mg) {cN : Addr} (Flook_net : Fn Pg w K mg base "look_net" 1 1 (pre3 cN)) : Fn Pg w K mg base "counts" 1 2 (preG fun n => .lst (n.cnts.map eL)) := by
  refine fn_ok (ps := ["net"]) F scCounts hb hm (fun ds r ⟨n, _, h, _⟩ => by rw [h]; rfl) (by decide) fun cdv A outer s H E C ds r h => ?_
  obtain ⟨n, hg, rfl, rfl⟩ := h
  have g1 := hg.w1; have g2 := hg.w2; have g3 := hg.ls
  show JB _ _ _ ⟨[.d n.e, .u, .u, .u, .u, .u], []⟩ _
  refine jb_cons (js_expr (je_call C Flook_net (by decide) (jd_cons (je_var 0) jd_nil) (preLook_to (.inl ⟨n, hg, rfl, rfl⟩))) ?_)
  refine jb_cons (js_new 1 C (jf_lst jd_nil) ?_)
  have hl : (List.range n.wide).length ≤ sizeLine := by rw [List.length_range, sizeLine_eq]; omega
  refine jb_cons (js_fold (List.range n.wide) (fun b t => b ++ [unitN n.wide t]) [] (fun b => ⟨[.d n.e, .c 0, .u, .u, .u, .u], [.lst (b.map eL)]⟩) (fun i b => b.length = i) C (ji_range1 T.range (je_ix (je_var 0) je_int (by walk_at "i")) (by omega)) rfl ?_ ?_)
  · intro i t b ha _ hQ
    have hi := (List.getElem?_eq_some_iff.mp ha).1
    rw [List.length_range] at hi
    refine jg_name 2 C.nd ?_
    refine jb_cons (js_app 1 0 (je_as (je_f (jf_lc C (lc_map (f := fun one : Nat => eN (if one = t then 1 else 0)) 3 (List.range n.wide) C (ji_range1 T.range (je_ix (je_var 0) je_int (by walk_at "i")) (by omega)) (fun a ha _ _ _ _ _ C => (je_as (je_intB T.int (je_cmp C (je_var 3) (je_var 2) (by walk_at "c"))) ?e1))))) (show _ = eL (unitN n.wide t) by rw [eL, unitN, List.map_map]; rfl)) ?_ ?_)
    case e1 =>
      rw [b2i_eN]
      congr 1
      by_cases q : a = t
      · rw [if_pos q, q]; simp
      · have : ¬ (a : Int) = (t : Int) := by omega
        rw [if_neg q]; simp [this]
    · rw [List.length_map, sizeLine_eq]; omega
    refine jb_fin (t := ⟨[.d n.e, .c 0, .u, .u, .u, .u], [.lst ((b ++ [unitN n.wide t]).map eL)]⟩) ⟨rfl, ?_⟩ ?_
    · rw [List.length_append, hQ]; rfl
    · rw [List.map_append]; rfl
  intro _
  rw [foldl_snoc, List.nil_append]
  refine jb_cons (js_fold n.steps (cntF n.wide) (cnts0 n.wide) (fun b => ⟨[.d n.e, .c 0, .u, .u, .u, .u], [.lst (b.map eL)]⟩) (fun i b => b.length = n.wide + i ∧ ∀ r ∈ b, r.length = n.wide) C (ji_list (je_ix (je_var 0) je_int (by walk_at "i"))) ⟨by rw [cnts0, List.length_map, List.length_range]; rfl, cnts0_row _⟩ ?_ ?_)
  · intro i p b ha _ hQ
    obtain ⟨hQ, hrow⟩ := hQ
    have hi := (List.getElem?_eq_some_iff.mp ha).1
    have hst := hg.st i p ha
    refine jg_n2 3 4 C ?_
    have r1 : (b.getD p.1 []).length = n.wide := hrow _ (getD_mem [] (by omega))
    have r2 : (b.getD p.2 []).length = n.wide := hrow _ (getD_mem [] (by omega))
    have x1 : IxD (.lst (b.map eL)) (.int (p.1 : Nat)) (eL (b.getD p.1 [])) := ix_lst eL [] (by omega)
    have x2 : IxD (.lst (b.map eL)) (.int (p.2 : Nat)) (eL (b.getD p.2 [])) := ix_lst eL [] (by omega)
    refine jb_cons (js_app 1 0 (je_as (je_f (jf_lc C (lc_map (f := fun k : Nat => eN ((b.getD p.1 []).getD k 0 + (b.getD p.2 []).getD k 0)) 5 (List.range n.wide) C (ji_range1 T.range (je_ix (je_var 0) je_int (by walk_at "i")) (by omega)) (fun a ha _ _ _ _ _ C => (je_view (je_bin (je_ix (je_ix (je_var 1) (je_var 3) x1) (je_var 5) (ix_lst eN 0 (by rw [r1]; exact List.mem_range.mp ha))) (je_ix (je_ix (je_var 1) (je_var 4) x2) (je_var 5) (ix_lst eN 0 (by rw [r2]; exact List.mem_range.mp ha))) .addI)))))) (show _ = eL (addR n.wide (b.getD p.1 []) (b.getD p.2 [])) by rw [eL, addR, List.map_map]; rfl)) ?_ ?_)
    · rw [List.length_map, sizeLine_eq]; omega
    refine jb_fin (t := ⟨[.d n.e, .c 0, .u, .u, .u, .u], [.lst ((cntF n.wide b p).map eL)]⟩) ⟨rfl, ?_, ?_⟩ ?_
    · rw [cntF, List.length_append, hQ]; rfl
    · exact cntF_row n.wide [p] b hrow
    · rw [cntF, List.map_append]; rfl
  · intro _
    refine jb_freeze 1 0 ?_
    exact jb_cons (js_ret (je_var 1) rfl)
abbrev sSpans : Stmt := topS 24
theorem scSpans : FnScope ["net", "thing", "found", "one", "other", "first", "second"] ["net"] (defScope sSpans) := ⟨rfl, rfl, rfl, by decide +kernel, rfl, by decide +kernel, by decide +kernel⟩
theorem fn_spans {f : Addr} {fd : FuncData} (F : Fun K "spans_of" "spans_of" sSpans f fd) (hb : Binds K fd ["net"] []) (hm : mg "spans_of" = some (.ref f)) (T : Bt mg) : Fn Pg w K mg base "spans_of" 1 1 (preG fun n => .lst (n.spans.map eO)) := by
  refine fn_ok (ps := ["net"]) F scSpans hb hm (fun ds r ⟨n, _, h, _⟩ => by rw [h]; rfl) (by decide) fun cdv A outer s H E C ds r h => ?_
  obtain ⟨n, hg, rfl, rfl⟩ := h
  have g1 := hg.w1; have g2 := hg.w2; have g3 := hg.ls
  show JB _ _ _ ⟨[.d n.e, .u, .u, .u, .u, .u, .u], []⟩ _
  have hl : (List.range n.wide).length ≤ sizeLine := by rw [List.length_range, sizeLine_eq]; omega
  refine jb_cons (js_newLc 2 C (lc_as (lc_map (f := fun x : Nat => eP (x, x)) 1 (List.range n.wide) C (ji_range1 T.range (je_ix (je_var 0) je_int (by walk_at "i")) (by omega)) (fun a ha _ _ _ _ _ C => (je_tup (jd_cons (je_var 1) (jd_cons (je_var 1) jd_nil))))) (show _ = (spans0 n.wide).map eO by rw [spans0, List.map_map]; rfl)) ?_)
  refine jb_cons (js_fold n.steps spF (spans0 n.wide) (fun b => ⟨[.d n.e, .u, .c 0, .u, .u, .u, .u], [.lst (b.map eO)]⟩) (fun i b => b.length = n.wide + i) C (ji_list (je_ix (je_var 0) je_int (by walk_at "i"))) (by rw [spans0, List.length_map, List.length_range]; rfl) ?_ ?_)
  · intro i p b ha _ hQ
    have hi := (List.getElem?_eq_some_iff.mp ha).1
    have hst := hg.st i p ha
    refine jg_n2 3 4 C ?_
    have x1 : IxD (.lst (b.map eO)) (.int (p.1 : Nat)) (eO (b.getD p.1 none)) := ix_lst eO none (by omega)
    have x2 : IxD (.lst (b.map eO)) (.int (p.2 : Nat)) (eO (b.getD p.2 none)) := ix_lst eO none (by omega)
    have n1 : D.nol (eO (b.getD p.1 none)) = true := by cases b.getD p.1 none <;> rfl
    have n2 : D.nol (eO (b.getD p.2 none)) = true := by cases b.getD p.2 none <;> rfl
    have fin : ∀ d, d = eO (joinS (b.getD p.1 none) (b.getD p.2 none)) → (⟨[.d n.e, .u, .c 0, .d (eN p.1), .d (eN p.2), .d (eO (b.getD p.1 none)), .d (eO (b.getD p.2 none))], [.lst (b.map eO ++ [d])]⟩ : DL.A) = ⟨[.d n.e, .u, .c 0, .d (eN p.1), .d (eN p.2), .d (eO (b.getD p.1 none)), .d (eO (b.getD p.2 none))], [.lst ((spF b p).map eO)]⟩ := fun d e => by rw [e, spF, List.map_append]; rfl
    refine jb_cons (js_par 5 6 C (jd_cons (je_view (je_ix (je_var 2) (je_var 3) x1) n1) (jd_cons (je_view (je_ix (je_var 2) (je_var 4) x2) n2) jd_nil)) ?_)
    have hlen : (b.map eO).length < sizeLine := by rw [List.length_map, sizeLine_eq]; omega
    refine jb_cut (fun s' => s' = ⟨[.d n.e, .u, .c 0, .d (eN p.1), .d (eN p.2), .d (eO (b.getD p.1 none)), .d (eO (b.getD p.2 none))], [.lst ((spF b p).map eO)]⟩) ?_ (fun s' hs' => ?_)
    · revert fin
      generalize b.getD p.1 none = o1
      generalize b.getD p.2 none = o2
      intro fin
      cases o1 with
      | none =>
        refine js_if (β := true) (jt_as (jt_w (jw_orC (jt_cmp C (je_var 5) je_non (by walk_at "c")) (β2 := true) (fun z => absurd z (by decide)))) rfl) (fun _ => ?_) (fun z => nomatch z)
        exact jb_cons (js_app 2 0 je_non hlen (jb_nil (fin .non rfl)))
      | some a => cases o2 with
        | none =>
          refine js_if (β := true) (jt_as (jt_w (jw_or (jt_cmp C (je_var 5) je_non (by walk_at "c")) (jw_orC (jt_cmp C (je_var 6) je_non (by walk_at "c")) (β2 := true) (fun z => absurd z (by decide))))) rfl) (fun _ => ?_) (fun z => nomatch z)
          exact jb_cons (js_app 2 0 je_non hlen (jb_nil (fin .non rfl)))
        | some c =>
          refine js_if (jt_w (jw_or (jt_cmp C (je_var 5) je_non (by walk_at "c")) (jw_or (jt_cmp C (je_var 6) je_non (by walk_at "c")) (jw_or1 (jt_cmp C (je_bin (je_ix (je_var 5) je_int (by walk_at "i")) je_int (by walk_at "b")) (je_ix (je_var 6) je_int (by walk_at "i")) (by walk_at "c")))))) (fun hb => ?_) (fun hb => ?_)
          · have hb : (!decide ((a.2 : Int) + 1 = (c.1 : Int))) = true := hb
            have h := bnot_dec hb
            exact jb_cons (js_app 2 0 je_non hlen (jb_nil (fin .non (by rw [joinS, if_neg (by omega)]; rfl))))
          · have hb : (!decide ((a.2 : Int) + 1 = (c.1 : Int))) = false := hb
            have h := bnot_decF hb
            exact jb_cons (js_app 2 0 (je_tup (jd_cons (je_ix (je_var 5) je_int (by walk_at "i")) (jd_cons (je_ix (je_var 6) je_int (by walk_at "i")) jd_nil))) hlen (jb_nil (fin (.tup [.int a.1, .int c.2]) (by rw [joinS, if_pos (by omega)]; rfl))))
    · subst hs'
      refine jb_fin (t := ⟨[.d n.e, .u, .c 0, .u, .u, .u, .u], [.lst ((spF b p).map eO)]⟩) ⟨rfl, ?_⟩
      rw [spF, List.length_append, hQ]; rfl
  · intro _
    refine jb_freeze 2 0 ?_
    exact jb_cons (js_ret (je_var 2) rfl)
end
end Wk

namespace Wk
open PySem PySem.Spec PyProof.Rows L2 DL Sm
section
variable {Pg : Program} {w : World} {K : PySem.W.Frag} {mg : Str → Option Value} {base : Heap}
abbrev sWrong : Stmt := topS 23
theorem scWrong : FnScope ["net", "kind", "some", "spans", "k", "here", "thing", "one"] ["net", "kind"] (defScope sWrong) := ⟨rfl, rfl, rfl, by decide +kernel, rfl, by decide +kernel, by decide +kernel⟩
def oD : Option Nat → D
  | none => .non
  | some k => eN k
def preWrong : List D → Res → Prop := fun ds r => ∃ (n : Nt) (s : Str), n.good ∧ ds = [n.e, .str s] ∧ r = .ok (oD (wrongN n s))
theorem fn_wrong {f : Addr} {fd : FuncData} (F : Fun K "wrong_out" "wrong_out" sWrong f fd) (hb : Binds K fd ["net", "kind"] []) (hm : mg "wrong_out" = some (.ref f)) (T : Bt mg) (Fcounts : Fn Pg w K mg base "counts" 1 2 (preG fun n => .lst (n.cnts.map eL))) (Fspans_of : Fn Pg w K mg base "spans_of" 1 1 (preG fun n => .lst (n.spans.map eO))) : Fn Pg w K mg base "wrong_out" 2 3 preWrong := by
  refine fn_ok (ps := ["net", "kind"]) F scWrong hb hm (fun ds r ⟨n, s, _, h, _⟩ => by rw [h]; rfl) (by decide) fun cdv A outer s H E C ds r h => ?_
  obtain ⟨n, kd, hg, rfl, rfl⟩ := h
  have g1 := hg.w1; have g2 := hg.w2; have g3 := hg.ls; have g4 := hg.lo
  show JB _ _ _ ⟨[.d n.e, .d (.str kd), .u, .u, .u, .u, .u, .u], []⟩ _
  refine jb_cons (js_set 2 C (je_call C Fcounts (by decide) (jd_cons (je_var 0) jd_nil) ⟨n, hg, rfl, rfl⟩) ?_)
  refine jb_cons (js_set 3 C (je_call C Fspans_of (by decide) (jd_cons (je_var 0) jd_nil) ⟨n, hg, rfl, rfl⟩) ?_)
  have hl : (List.range n.wide).length ≤ sizeLine := by rw [List.length_range, sizeLine_eq]; omega
  refine jb_cons (js_for (fun i s' => (∀ j, j < i → badOut n kd j = false) ∧ s' = ⟨[.d n.e, .d (.str kd), .d (.lst (n.cnts.map eL)), .d (.lst (n.spans.map eO)), .u, .u, .u, .u], []⟩) C (ji_range1 T.range (n := n.wide) (je_ix (je_var 0) je_int (by walk_at "i")) (by omega)) ⟨fun _ h => absurd h (Nat.not_lt_zero _), rfl⟩ ?_ ?_)
  · rintro i d s' hd ⟨h1, rfl⟩
    obtain ⟨hi, rfl⟩ := rng_get hd
    have ho : n.outs.getD i 0 < n.wide + n.steps.length := hg.os _ (getD_mem 0 (by omega))
    have x0 : IxD (.lst (n.outs.map eN)) (.int (i : Nat)) (eN (n.outs.getD i 0)) := ix_lst eN 0 (by omega)
    have x1 : IxD (.lst (n.cnts.map eL)) (eN (n.outs.getD i 0)) (eL (n.cnts.getD (n.outs.getD i 0) [])) := ix_lst eL [] (by rw [n.cnts_len]; exact ho)
    have x2 : IxD (.lst (n.spans.map eO)) (eN (n.outs.getD i 0)) (eO (n.spans.getD (n.outs.getD i 0) none)) := ix_lst eO none (by rw [n.spans_len]; exact ho)
    have hr : (n.cnts.getD (n.outs.getD i 0) []).length = n.wide := n.cnts_row _ (getD_mem [] (by rw [n.cnts_len]; exact ho))
    have hr2 : (n.cnts.getD (n.outs.getD i 0) []).length ≤ sizeLine := by rw [hr, sizeLine_eq]; omega
    have found : ∀ {β : Bool}, badOut n kd i = true → (PoR (.ok (oD (wrongN n kd)))).rt (eN i) [] := fun h => by
      show Res.ok _ = Res.ok _
      rw [wrongN, find_at hi h1 h]
      rfl
    refine jg_name 4 C.nd ?_
    refine jb_cons (js_set 5 C (je_ix (je_var 2) (je_ix (je_ix (je_var 0) je_int (by walk_at "i")) (je_var 4) x0) x1) ?_)
    refine jb_cons (js_if (jt_w (jw_and (jt_cmp C (je_var 1) je_str (by walk_at "c")) (jw_and1 (jt_as (jt_cmp C (je_ix (je_var 3) (je_ix (je_ix (je_var 0) je_int (by walk_at "i")) (je_var 4) x0) x2) (je_tup (jd_cons je_int (jd_cons (je_var 4) jd_nil))) (.ne 1 (by decide) (sh_eO 0 _) (sh_eP 0 (0, i)))) (show _ = !decide (n.spans.getD (n.outs.getD i 0) none = some (0, i)) from congrArg not (inj_eO _ (some (0, i)))))))) (fun hb => ?_) (fun hb => ?_))
    · refine jb_cons (js_ret (je_var 4) (found (β := true) ?_))
      unfold badOut
      rw [hb, Bool.true_or]
    have hb1 := hb
    refine jb_nil ?_
    refine jb_cons (js_if (jt_w (jw_and (jt_cmp C (je_var 1) je_str (by walk_at "c")) (jw_and1 (jt_as (jt_cmp C (je_var 5) (je_as (je_f (jf_lc C (lc_map (f := fun t : Nat => eN (if t ≤ i then 1 else 0)) 6 (List.range n.wide) C (ji_range1 T.range (je_ix (je_var 0) je_int (by walk_at "i")) (by omega)) (fun a ha _ _ _ _ _ C => (je_as (je_intB T.int (je_cmp C (je_var 6) (je_var 4) (by walk_at "c"))) ?e1))))) (show _ = eL (uptoN n.wide i) by rw [eL, uptoN, List.map_map]; rfl)) (.ne 1 (by decide) (sh_lst fun x _ => sh_eN 0 x) (sh_lst fun x _ => sh_eN 0 x))) (show _ = !decide (n.cnts.getD (n.outs.getD i 0) [] = uptoN n.wide i) from congrArg not (inj_eL _ _)))))) (fun hb => ?_) (fun hb => ?_))
    case e1 =>
      rw [b2i_eN]
      congr 1
      by_cases q : a ≤ i
      · have : (a : Int) ≤ (i : Int) := by omega
        rw [if_pos q]; simp [this]
      · have : ¬ (a : Int) ≤ (i : Int) := by omega
        rw [if_neg q]; simp [this]
    · refine jb_cons (js_ret (je_var 4) (found (β := true) ?_))
      unfold badOut
      rw [hb, Bool.true_or, Bool.or_true]
    have hb2 := hb
    refine jb_nil ?_
    refine jb_cons (js_if (jt_w (jw_and (jt_cmp C (je_var 1) je_str (by walk_at "c")) (jw_and1 (jt_as (jt_cmp C (je_as (je_f (jf_lc C (lc_map (f := fun x : Nat => D.bl (decide (0 < x))) 7 (n.cnts.getD (n.outs.getD i 0) []) C (ji_list (je_var 5)) (fun a ha _ _ _ _ _ C => (je_as (je_cmp C (je_var 7) je_int (by walk_at "c")) ?e2))))) (show _ = D.lst (((n.cnts.getD (n.outs.getD i 0) []).map fun x => decide (0 < x)).map .bl) by rw [List.map_map]; rfl)) (je_as (je_f (jf_lc C (lc_map (f := fun t : Nat => D.bl (decide (t ≤ i))) 6 (List.range n.wide) C (ji_range1 T.range (je_ix (je_var 0) je_int (by walk_at "i")) (by omega)) (fun a ha _ _ _ _ _ C => (je_as (je_cmp C (je_var 6) (je_var 4) (by walk_at "c")) ?e3))))) (show _ = D.lst (((List.range n.wide).map fun t => decide (t ≤ i)).map .bl) by rw [List.map_map]; rfl)) (.ne 1 (by decide) (sh_lst fun x _ => sh_bl 0 x) (sh_lst fun x _ => sh_bl 0 x))) (show _ = !decide ((n.cnts.getD (n.outs.getD i 0) []).map (fun x => decide (0 < x)) = (List.range n.wide).map fun t => decide (t ≤ i)) from congrArg not (eqv_lst inj_bl _ _)))))) (fun hb => ?_) (fun hb => ?_))
    case e2 =>
      congr 1
      rw [decide_eq_decide]
      show (0 : Int) < (a : Int) ↔ _
      omega
    case e3 =>
      congr 1
      rw [decide_eq_decide]
      show (a : Int) ≤ (i : Int) ↔ _
      omega
    · refine jb_cons (js_ret (je_var 4) (found (β := true) ?_))
      unfold badOut
      rw [hb, Bool.or_true, Bool.or_true]
    have ok : badOut n kd i = false := by
      unfold badOut
      rw [hb1, hb2, hb]
      rfl
    refine jb_nil ?_
    refine jb_fin (t := ⟨[.d n.e, .d (.str kd), .d (.lst (n.cnts.map eL)), .d (.lst (n.spans.map eO)), .u, .u, .u, .u], []⟩) ⟨fun j hj => ?_, rfl⟩
    by_cases e : j = i
    · rw [e]; exact ok
    · exact h1 j (by omega)
  · rintro s' ⟨h1, rfl⟩
    rw [List.length_map, List.length_range] at h1
    refine jb_cons (js_ret je_non ?_)
    show Res.ok _ = Res.ok _
    rw [wrongN, find_no h1]
    rfl
abbrev sBrk : Stmt := topS 25
theorem scBrk : FnScope ["net", "kind", "out", "thing", "here", "bad"] ["net", "kind", "out"] (defScope sBrk) := ⟨rfl, rfl, rfl, by decide +kernel, rfl, by decide +kernel, by decide +kernel⟩
def preBrk : List D → Res → Prop := fun ds r => ∃ (n : Nt) (s : Str) (k : Nat), n.good ∧ wrongN n s = some k ∧ ds = [n.e, .str s, .int k] ∧ r = .ok (brkN n s k)
theorem fn_brk {f : Addr} {fd : FuncData} (F : Fun K "breaking_row" "breaking_row" sBrk f fd) (hb : Binds K fd ["net", "kind", "out"] []) (hm : mg "breaking_row" = some (.ref f)) (T : Bt mg) (Fcounts : Fn Pg w K mg base "counts" 1 2 (preG fun n => .lst (n.cnts.map eL))) : Fn Pg w K mg base "breaking_row" 3 3 preBrk := by
  refine fn_ok (ps := ["net", "kind", "out"]) F scBrk hb hm (fun ds r ⟨n, s, k, _, _, h, _⟩ => by rw [h]; rfl) (by decide) fun cdv A outer s H E C ds r h => ?_
  obtain ⟨n, kd, out, hg, hw, rfl, rfl⟩ := h
  have g1 := hg.w1; have g2 := hg.w2; have g3 := hg.ls; have g4 := hg.lo
  have hout : out < n.wide := List.mem_range.mp (List.mem_of_find?_eq_some hw)
  have ho : n.outs.getD out 0 < n.wide + n.steps.length := hg.os _ (getD_mem 0 (by omega))
  have hl : (List.range n.wide).length ≤ sizeLine := by rw [List.length_range, sizeLine_eq]; omega
  show JB _ _ _ ⟨[.d n.e, .d (.str kd), .d (.int out), .u, .u, .u], []⟩ _
  refine jb_cons (js_if (jt_cmp C (je_var 1) je_str (by walk_at "c")) (fun hb => ?_) (fun hb => ?_))
  · have e : kd = "any" := of_decide_eq_true hb
    refine jb_cons (js_ret (je_f (jf_lc C (lc_map (f := fun t : Nat => D.str (thingS t)) 3 (List.range n.wide) C (ji_range1 T.range (je_ix (je_var 0) je_int (by walk_at "i")) (by omega)) (fun a ha _ _ _ _ _ C => (je_bin (je_bin je_str (je_strI T.str (je_var 3) ?l1) (.addS ?l2)) je_str (.addS ?l3)))))) ?_)
    case l1 => exact (thing_small a (by have := List.mem_range.mp ha; omega)).1
    case l2 => exact Nat.le_trans (thing_small a (by have := List.mem_range.mp ha; omega)).2.1 (by rw [sizeLine_eq]; decide)
    case l3 => exact Nat.le_trans (thing_small a (by have := List.mem_range.mp ha; omega)).2.2.1 (by rw [sizeLine_eq]; decide)
    show Res.ok _ = Res.ok _
    rw [brkN, if_pos e]
  have hany : kd ≠ "any" := of_decide_eq_false hb
  refine jb_nil ?_
  have x0 : IxD (.lst (n.outs.map eN)) (.int (out : Nat)) (eN (n.outs.getD out 0)) := ix_lst eN 0 (by omega)
  have x1 : IxD (.lst (n.cnts.map eL)) (eN (n.outs.getD out 0)) (eL (n.cnts.getD (n.outs.getD out 0) [])) := ix_lst eL [] (by rw [n.cnts_len]; exact ho)
  have hr : (n.cnts.getD (n.outs.getD out 0) []).length = n.wide := n.cnts_row _ (getD_mem [] (by rw [n.cnts_len]; exact ho))
  refine jb_cons (js_set 4 C (je_ix (je_call C Fcounts (by decide) (jd_cons (je_var 0) jd_nil) ⟨n, hg, rfl, rfl⟩) (je_ix (je_ix (je_var 0) je_int (by walk_at "i")) (je_var 2) x0) x1) ?_)
  have xt : ∀ t, t < n.wide → IxD (eL (n.cnts.getD (n.outs.getD out 0) [])) (.int (t : Nat)) (eN ((n.cnts.getD (n.outs.getD out 0) []).getD t 0)) := fun t ht => ix_lst eN 0 (by rw [hr]; exact ht)
  refine jb_cut (fun s' => s' = ⟨[.d n.e, .d (.str kd), .d (.int out), .u, .d (eL (n.cnts.getD (n.outs.getD out 0) [])), .d (eL (brkBad n kd out))], []⟩) (js_if (jt_cmp C (je_var 1) je_str (by walk_at "c")) (fun hb => ?_) (fun hb => ?_)) (fun s' hs' => ?_)
  · have e : kd = "greatest" := of_decide_eq_true hb
    refine jb_cons (js_set 5 C (je_f (jf_lc C (lc_as (lc_filter (f := eN) 3 (List.range n.wide) (pr := fun t => !decide (decide (0 < (n.cnts.getD (n.outs.getD out 0) []).getD t 0) = decide (t ≤ out))) C (ji_range1 T.range (je_ix (je_var 0) je_int (by walk_at "i")) (by omega)) (fun a ha _ _ _ _ _ C => (jt_as (jt_cmp C (je_cmp C (je_ix (je_var 4) (je_var 3) (xt a (List.mem_range.mp ha))) je_int (by walk_at "c")) (je_cmp C (je_var 3) (je_var 2) (by walk_at "c")) (.ne 0 (by decide) (sh_bl 0 _) (sh_bl 0 _))) ?e1)) (fun a ha hp _ _ _ _ _ C => (je_var 3))) (show _ = (brkBad n kd out).map eN by unfold brkBad; simp only [if_pos e])))) ?_)
    case e1 =>
      rw [eqv_bl]
      have h1 : decide ((0 : Int) < (((n.cnts.getD (n.outs.getD out 0) []).getD a 0 : Nat) : Int)) = decide (0 < (n.cnts.getD (n.outs.getD out 0) []).getD a 0) := by rw [decide_eq_decide]; omega
      have h2 : decide ((a : Int) ≤ (out : Int)) = decide (a ≤ out) := by rw [decide_eq_decide]; omega
      show (!decide (decide ((0 : Int) < (((n.cnts.getD (n.outs.getD out 0) []).getD a 0 : Nat) : Int)) = decide ((a : Int) ≤ (out : Int)))) = _
      rw [h1, h2]
    exact jb_nil rfl
  · have e : kd ≠ "greatest" := of_decide_eq_false hb
    refine jb_cons (js_set 5 C (je_f (jf_lc C (lc_as (lc_filter (f := eN) 3 (List.range n.wide) (pr := fun t => !decide ((n.cnts.getD (n.outs.getD out 0) []).getD t 0 = if t ≤ out then 1 else 0)) C (ji_range1 T.range (je_ix (je_var 0) je_int (by walk_at "i")) (by omega)) (fun a ha _ _ _ _ _ C => (jt_as (jt_cmp C (je_ix (je_var 4) (je_var 3) (xt a (List.mem_range.mp ha))) (je_intB T.int (je_cmp C (je_var 3) (je_var 2) (by walk_at "c"))) (by walk_at "c")) ?e2)) (fun a ha hp _ _ _ _ _ C => (je_var 3))) (show _ = (brkBad n kd out).map eN by unfold brkBad; simp only [if_neg e])))) ?_)
    case e2 =>
      congr 1
      rw [decide_eq_decide]
      unfold DL.b2i
      by_cases q : a ≤ out
      · have : (a : Int) ≤ (out : Int) := by omega
        rw [if_pos q, decide_eq_true this, if_pos rfl]
        omega
      · have : ¬ (a : Int) ≤ (out : Int) := by omega
        rw [if_neg q, decide_eq_false this, if_neg (by decide)]
        omega
    exact jb_nil rfl
  · subst hs'
    have hne := brk_some hg hany hw
    have hp : 0 < (brkBad n kd out).length := List.length_pos_iff.mpr hne
    have xb : IxD (eL (brkBad n kd out)) (.int 0) (eN ((brkBad n kd out).getD 0 0)) := ix_lst eN (i := 0) 0 hp
    refine jb_cons (js_ret (je_as (je_f (jf_lc C (lc_map (f := fun one : Nat => eN (if one = (brkBad n kd out).getD 0 0 then 1 else 0)) 3 (List.range n.wide) C (ji_range1 T.range (je_ix (je_var 0) je_int (by walk_at "i")) (by omega)) (fun a ha _ _ _ _ _ C => (je_as (je_intB T.int (je_cmp C (je_var 3) (je_ix (je_var 5) je_int xb) (by walk_at "c"))) ?e3))))) (show _ = brkN n kd out by rw [brkN, if_neg hany, eL, unitN, List.map_map]; rfl)) ?_)
    case e3 =>
      rw [b2i_eN]
      congr 1
      by_cases q : a = (brkBad n kd out).getD 0 0
      · have : (a : Int) = (((brkBad n kd out).getD 0 0 : Nat) : Int) := by omega
        rw [if_pos q, if_pos (decide_eq_true this)]
      · have : ¬ (a : Int) = (((brkBad n kd out).getD 0 0 : Nat) : Int) := by omega
        rw [if_neg q, if_neg (by rw [decide_eq_false this]; decide)]
    rfl
abbrev sJudged : Stmt := topS 26
theorem scJudged : FnScope ["net", "kind", "out"] ["net", "kind"] (defScope sJudged) := ⟨rfl, rfl, rfl, by decide +kernel, rfl, by decide +kernel, by decide +kernel⟩
def kindsL : List Str := ["any", "commuting", "greatest"]
/-- the constant KINDS -/
structure KindsF (K : PySem.W.Frag) (mg : Str → Option Value) : Prop where
  ex : ∃ a, mg "KINDS" = some (.ref a) ∧ SqT K (fun _ => none) a (kindsL.map V.str)
theorem je_kinds {X : Cx} {W : WX} {s : DL.A} {pos : Pos} (h : KindsF X.K X.mg) (hg : Gl X "KINDS" := by rfl) : JE X W (.Name "KINDS" pos) s (.ok (.tup (kindsL.map .str))) s := by
  obtain ⟨a, h1, h2⟩ := h.ex
  exact je_c (v := .ref a) (pe_glob hg h1 rfl (by decide)) fun B => .tup (by
    rcases h2 with (h2 | ⟨o, h2⟩) | h2
    · cases h2
    · cases h2
    · exact .inr h2) (Reps.of_strs _)
/-- of nets -/
def preJudged (cN cK : Addr) : List D → Res → Prop := fun ds r => ∃ (n : N3) (s : Str), n.fit ∧ ds = [n.e, .str s] ∧ ((¬ n.ok ∧ r = .er cN) ∨ (n.ok ∧ s ∉ kindsL ∧ r = .er cK) ∨ ∃ m : Nt, m.good ∧ m.n3 = n ∧ s ∈ kindsL ∧ r = .ok (judgN m s))
theorem preJudged_ok {cN cK : Addr} {n : Nt} (hg : n.good) {s : Str} (hs : s ∈ kindsL) : preJudged cN cK [n.e, .str s] (.ok (judgN n s)) := ⟨n.n3, s, hg.fit, by rw [n.e_n3], .inr (.inr ⟨n, hg, rfl, hs, rfl⟩)⟩
theorem fn_judged {f : Addr} {fd : FuncData} (F : Fun K "judged" "judged" sJudged f fd) (hb : Binds K fd ["net", "kind"] []) (hm : mg "judged" = some (.ref f)) (T : Bt mg) {cN cK : Addr} (xBadKind : ExcOf K mg "BadKind" cK) (hK : KindsF K mg) (Flook_net : Fn Pg w K mg base "look_net" 1 1 (pre3 cN)) (Fwrong_out : Fn Pg w K mg base "wrong_out" 2 3 preWrong) (Fbreaking_row : Fn Pg w K mg base "breaking_row" 3 3 preBrk) : Fn Pg w K mg base "judged" 2 4 (preJudged cN cK) := by
  refine fn_ok (ps := ["net", "kind"]) F scJudged hb hm (fun ds r ⟨n, s, _, h, _⟩ => by rw [h]; rfl) (by decide) fun cdv A outer s H E C ds r h => ?_
  obtain ⟨n, kd, hf, rfl, h⟩ := h
  show JB _ _ _ ⟨[.d n.e, .d (.str kd), .u], []⟩ _
  by_cases hok : n.ok
  case neg =>
    rcases h with ⟨_, rfl⟩ | ⟨z, _⟩ | ⟨m, hg, rfl, _⟩
    · exact jb_cons (js_exprE (je_callE C Flook_net (by decide) (jd_cons (je_var 0) jd_nil) ⟨n, hf, rfl, .inr ⟨hok, rfl⟩⟩) rfl)
    · exact absurd z hok
    · exact absurd hg.ok hok
  refine jb_cons (js_expr (je_call C Flook_net (by decide) (jd_cons (je_var 0) jd_nil) ⟨n, hf, rfl, .inl ⟨hok, rfl⟩⟩) ?_)
  refine jb_cons (js_if (jt_cmp C (je_var 1) (je_kinds hK) .ninTS) (fun hb => ?_) (fun hb => ?_))
  · have hn : kd ∉ kindsL := fun z => by
      have : (kindsL.any fun j => decide (j = kd)) = true := List.any_eq_true.mpr ⟨kd, z, decide_eq_true rfl⟩
      rw [this] at hb
      cases hb
    rcases h with ⟨z, _⟩ | ⟨_, _, rfl⟩ | ⟨m, hg, _, z, _⟩
    · exact absurd hok z
    · exact jb_cons (js_raise C xBadKind rfl)
    · exact absurd z hn
  have hin : kd ∈ kindsL := by
    cases q : (kindsL.any fun j => decide (j = kd)) with
    | false => rw [q] at hb; cases hb
    | true =>
      obtain ⟨j, hj, e⟩ := List.any_eq_true.mp q
      have := of_decide_eq_true e
      subst this
      exact hj
  rcases h with ⟨z, _⟩ | ⟨_, z, _⟩ | ⟨m, hg, rfl, _, rfl⟩
  · exact absurd hok z
  · exact absurd hin z
  rw [m.e_n3]
  refine jb_nil ?_
  refine jb_cons (js_set 2 C (je_call C Fwrong_out (by decide) (jd_cons (je_var 0) (jd_cons (je_var 1) jd_nil)) ⟨m, kd, hg, rfl, rfl⟩) ?_)
  cases hw : wrongN m kd with
  | none =>
    refine jb_cons (js_if (jt_cmp C (je_var 2) je_non (by walk_at "c")) (fun hb => ?_) (fun hb => Bool.noConfusion (show true = false from hb)))
    refine jb_cons (js_ret (je_tup (jd_cons je_str jd_nil)) ?_)
    show Res.ok _ = Res.ok _
    rw [judgN, hw]
  | some k =>
    refine jb_cons (js_if (jt_cmp C (je_var 2) je_non (by walk_at "c")) (fun hb => Bool.noConfusion (show false = true from hb)) (fun hb => ?_))
    refine jb_nil ?_
    refine jb_cons (js_ret (je_tup (jd_cons je_str (jd_cons (je_var 2) (jd_cons (je_call C Fbreaking_row (by decide) (jd_cons (je_var 0) (jd_cons (je_var 1) (jd_cons (je_var 2) jd_nil))) ⟨m, kd, k, hg, hw, rfl, rfl⟩) jd_nil)))) ?_)
    show Res.ok _ = Res.ok _
    rw [judgN, hw]
    rfl
end
end Wk

namespace Wk
open PySem PySem.Spec PyProof.Rows L2 DL Sm
section
variable {Pg : Program} {w : World} {K : PySem.W.Frag} {mg : Str → Option Value} {base : Heap}
abbrev sLeastD : Stmt := topS 9
theorem scLeastD : FnScope ["wide", "found", "many"] ["wide"] (defScope sLeastD) := ⟨rfl, rfl, rfl, by decide +kernel, rfl, by decide +kernel, by decide +kernel⟩
def preLeastD (cK : Addr) : List D → Res → Prop := fun ds r => (∃ w : Nat, 1 ≤ w ∧ w ≤ 64 ∧ ds = [.int (w : Nat)] ∧ r = .ok (eN (leastD w))) ∨ ∃ w : Int, ¬ (1 ≤ w ∧ w ≤ 64) ∧ ds = [.int w] ∧ r = .er cK
theorem fn_leastD {f : Addr} {fd : FuncData} (F : Fun K "least_depth" "least_depth" sLeastD f fd) (hb : Binds K fd ["wide"] []) (hm : mg "least_depth" = some (.ref f)) (T : Bt mg) {cK : Addr} (xBadKind : ExcOf K mg "BadKind" cK) : Fn Pg w K mg base "least_depth" 1 1 (preLeastD cK) := by
  refine fn_ok (ps := ["wide"]) F scLeastD hb hm (fun ds r h => by rcases h with ⟨_, _, _, h, _⟩ | ⟨_, _, h, _⟩ <;> rw [h] <;> rfl) (by decide) fun cdv A outer s H E C ds r h => ?_
  rcases h with ⟨w, w1, w2, rfl, rfl⟩ | ⟨w, hw, rfl, rfl⟩
  · show JB _ _ _ ⟨[.d (.int w), .u, .u], []⟩ _
    refine jb_cons (js_if (jt_not (jt_chain C je_int (je_var 0) (by walk_at "c") je_int (by walk_at "c"))) (fun hb => ?_) (fun hb => ?_))
    · have h1 : (1 : Int) ≤ w := by omega
      have h2 : (w : Int) ≤ 64 := by omega
      simp [h1, h2] at hb
    refine jb_nil ?_
    refine jb_cons (js_set 1 C je_int ?_)
    refine jb_cons (js_set 2 C je_int ?_)
    refine jb_cons (js_while (m0 := w) (fun m s' => ∃ many found : Nat, 1 ≤ many ∧ w ≤ many + m ∧ ldF w m many found = leastD w ∧ s' = ⟨[.d (.int w), .d (eN found), .d (eN many)], []⟩) C ⟨1, 0, Nat.le_refl _, by omega, rfl, rfl⟩ ?_)
    rintro m s' ⟨many, found, h1, h2, h3, rfl⟩
    refine ⟨_, (jt_cmp C (je_var 2) (je_var 0) (by walk_at "c")), fun hb => ?_, fun hb => ?_⟩
    · have hlt : many < w := by have := of_decide_eq_true hb; omega
      cases m with
      | zero => omega
      | succ m =>
        rw [ldF, if_pos hlt] at h3
        refine jb_cons (js_set 2 C (je_as (je_bin je_int (je_var 2) (by walk_at "b")) (show _ = eN (2 * many) from rfl)) ?_)
        refine jb_cons (js_set 1 C (je_as (je_bin (je_var 1) je_int (by walk_at "b")) (show _ = eN (found + 1) from rfl)) ?_)
        exact jb_nil ⟨m, Nat.lt_succ_self m, 2 * many, found + 1, by omega, by omega, h3, rfl⟩
    · have hlt : ¬ many < w := by have := of_decide_eq_false hb; omega
      have e : found = leastD w := by
        rw [← h3]
        cases m with
        | zero => rfl
        | succ m => rw [ldF, if_neg hlt]
      rw [← e]
      exact jb_cons (js_ret (je_var 1) rfl)
  · show JB _ _ _ ⟨[.d (.int w), .u, .u], []⟩ _
    refine jb_cons (js_if (jt_not (jt_chain C je_int (je_var 0) (by walk_at "c") je_int (by walk_at "c"))) (fun hb => ?_) (fun hb => ?_))
    · exact jb_cons (js_raise C xBadKind rfl)
    · exfalso
      apply hw
      simp at hb
      exact hb
end
end Wk

namespace Wk
open PySem PySem.Spec PyProof.Rows L2 DL Sm
/-- the classes of errors, and what isinstance says of one of them -/
structure RefF (K : PySem.W.Frag) (mg : Str → Option Value) (c : Addr) (j : Nat) : Prop where
  lt : j < 5
  E : ExcC K c
  ex : ∃ cK cN cR cT cW : Addr, (mg "BadKind" = some (.ref cK) ∧ mg "BadNet" = some (.ref cN) ∧ mg "BadRow" = some (.ref cR) ∧ mg "BadText" = some (.ref cT) ∧ mg "Wrong" = some (.ref cW)) ∧
    PySem.W.kitOne K (.ref c) (.ref cK) = some (decide (j = 0)) ∧ PySem.W.kitOne K (.ref c) (.ref cN) = some (decide (j = 1)) ∧ PySem.W.kitOne K (.ref c) (.ref cR) = some (decide (j = 2)) ∧ PySem.W.kitOne K (.ref c) (.ref cT) = some (decide (j = 3)) ∧ PySem.W.kitOne K (.ref c) (.ref cW) = some (decide (j = 4))
  v : PySem.W.kitOne K (.ref c) (.type "ValueError") = some true
def refS : List Str := ["kind", "net", "row", "text", "not"]
def kinds5 (j : Nat) : List Bool := [decide (j = 0), decide (j = 1), decide (j = 2)] ++ [decide (j = 3), decide (j = 4)]
theorem kinds_ok : ∀ j, j < 5 → (kinds5 j).count true = 1 ∧ (kinds5 j)[j]? = some true ∧ (∀ m z, m < j → (kinds5 j)[m]? = some z → z = false) ∧ ([D.str "kind", .str "net", .str "row", .str "text", .str "not"] : List D).getD j .non = .str (refS.getD j "")
  | 0, _ => ⟨by decide, rfl, fun m z h => absurd h (Nat.not_lt_zero _), rfl⟩
  | 1, _ => ⟨by decide, rfl, fun m z h e => by
      match m, h with
      | 0, _ => exact (Option.some.inj e).symm, rfl⟩
  | 2, _ => ⟨by decide, rfl, fun m z h e => by
      match m, h with
      | 0, _ => exact (Option.some.inj e).symm
      | 1, _ => exact (Option.some.inj e).symm, rfl⟩
  | 3, _ => ⟨by decide, rfl, fun m z h e => by
      match m, h with
      | 0, _ => exact (Option.some.inj e).symm
      | 1, _ => exact (Option.some.inj e).symm
      | 2, _ => exact (Option.some.inj e).symm, rfl⟩
  | 4, _ => ⟨by decide, rfl, fun m z h e => by
      match m, h with
      | 0, _ => exact (Option.some.inj e).symm
      | 1, _ => exact (Option.some.inj e).symm
      | 2, _ => exact (Option.some.inj e).symm
      | 3, _ => exact (Option.some.inj e).symm, rfl⟩
section
variable {Pg : Program} {w : World} {K : PySem.W.Frag} {mg : Str → Option Value} {base : Heap}
abbrev sRefusal : Stmt := topS 31
theorem scRefusal : FnScope ["_law_kept", "_law_kinds"] ["_law_kept"] (defScope sRefusal) := ⟨rfl, rfl, rfl, by decide +kernel, rfl, by decide +kernel, by decide +kernel⟩
def preRefusal (K : PySem.W.Frag) (mg : Str → Option Value) : List D → Res → Prop := fun ds r => ∃ (c : Addr) (j : Nat), RefF K mg c j ∧ ds = [.exc c] ∧ r = .ok (.str (refS.getD j ""))
theorem fn_refusal {f : Addr} {fd : FuncData} (F : Fun K "_law_refusal" "_law_refusal" sRefusal f fd) (hb : Binds K fd ["_law_kept"] []) (hm : mg "_law_refusal" = some (.ref f)) (T : Bt mg) : Fn Pg w K mg base "_law_refusal" 1 1 (preRefusal K mg) := by
  refine fn_ok (ps := ["_law_kept"]) F scRefusal hb hm (fun ds r ⟨c, j, _, h, _⟩ => by rw [h]; rfl) (by decide) fun cdv A outer s H E C ds r h => ?_
  obtain ⟨c, j, R, rfl, rfl⟩ := h
  obtain ⟨cK, cN, cR, cT, cW, ⟨gK, gN, gR, gT, gW⟩, k0, k1, k2, k3, k4⟩ := R.ex
  obtain ⟨q1, q2, q3, q4⟩ := kinds_ok j R.lt
  show JB _ _ _ ⟨[.d (.exc c), .u], []⟩ _
  refine jb_cons (js_if (jt_cmp C (je_var 0) je_non (by walk_at "c")) (fun hb => ?_) (fun hb => ?_))
  · cases hb
  refine jb_nil ?_
  refine jb_cons (js_set 1 C (je_f (jf_lst (jd_cons (je_isinst T.isinstance (je_var 0) (pe_glob (v := .ref cK) rfl gK rfl) (.own _) (.exc R.E k0)) (jd_cons (je_isinst T.isinstance (je_var 0) (pe_glob (v := .ref cN) rfl gN rfl) (.own _) (.exc R.E k1)) (jd_cons (je_isinst T.isinstance (je_var 0) (pe_glob (v := .ref cR) rfl gR rfl) (.own _) (.exc R.E k2)) jd_nil))))) ?_)
  refine jb_cons (js_set 1 C (je_as (je_f (jf_cat (je_var 1) (je_f (jf_lst (jd_cons (je_isinst T.isinstance (je_var 0) (pe_glob (v := .ref cT) rfl gT rfl) (.own _) (.exc R.E k3)) (jd_cons (je_isinst T.isinstance (je_var 0) (pe_glob (v := .ref cW) rfl gW rfl) (.own _) (.exc R.E k4)) jd_nil)))) (by exact Nat.le_of_ble_eq_true rfl))) (show _ = D.lst ((kinds5 j).map .bl) from rfl)) ?_)
  refine jb_cons (js_if (jt_w (jw_or (jt_cmp C (je_countB (je_var 1) je_bl) je_int (by walk_at "c")) (jw_or1 (jt_not (jt_val (je_isinst T.isinstance (je_var 0) (pe_bltn (v := .ty "ValueError") rfl T.VE (by decide +kernel) rfl) (.ty _) (.exc R.E R.v))))))) (fun hb => ?_) (fun hb => ?_))
  · rw [q1] at hb
    cases hb
  refine jb_nil ?_
  refine jb_cons (js_ret (je_ix (je_f (jf_lst (jd_cons je_str (jd_cons je_str (jd_cons je_str (jd_cons je_str (jd_cons je_str jd_nil))))))) (je_index (n := 0) (j := j) (z := .bl true) C (je_var 1) je_bl (by decide) (fun x hx => by obtain ⟨b, _, rfl⟩ := List.mem_map.mp hx; exact True.intro) True.intro (by rw [List.getElem?_map, q2]; rfl) rfl (fun m z' hm hz => by rw [List.getElem?_map] at hz; cases e : (kinds5 j)[m]? with | none => rw [e] at hz; cases hz | some b => rw [e] at hz; cases hz; rw [q3 m b hm e]; rfl)) (ix_disp (ds := [D.str "kind", .str "net", .str "row", .str "text", .str "not"]) R.lt)) ?_)
  show Res.ok _ = Res.ok _
  rw [q4]
end
end Wk

namespace Wk
open PySem PySem.Spec PyProof.Rows L2 DL Sm
section
variable {Pg : Program} {w : World} {K : PySem.W.Frag} {mg : Str → Option Value} {base : Heap}
abbrev sWhole : Stmt := topS 30
theorem scWhole : FnScope ["_law_found"] ["_law_found"] (defScope sWhole) := ⟨rfl, rfl, rfl, by decide +kernel, rfl, by decide +kernel, by decide +kernel⟩
def preWhole : List D → Res → Prop := fun ds r => ∃ i : Int, ds = [.int i] ∧ r = .ok (.bl true)
theorem fn_whole {f : Addr} {fd : FuncData} (F : Fun K "_law_whole" "_law_whole" sWhole f fd) (hb : Binds K fd ["_law_found"] []) (hm : mg "_law_whole" = some (.ref f)) (T : Bt mg) : Fn Pg w K mg base "_law_whole" 1 1 preWhole := by
  refine fn_ok (ps := ["_law_found"]) F scWhole hb hm (fun ds r ⟨i, h, _⟩ => by rw [h]; rfl) (by decide) fun cdv A outer s H E C ds r h => ?_
  obtain ⟨i, rfl, rfl⟩ := h
  show JB _ _ _ ⟨[.d (.int i)], []⟩ _
  exact jb_cons (js_ret (je_and (je_isinst T.isinstance (je_var 0) (pe_bltn (v := .ty "int") rfl T.int (by decide +kernel) rfl) (.ty _) (.int (b := true) (kit_ty (by decide +kernel)))) (fun _ => je_one (je_not (je_isinst T.isinstance (je_var 0) (pe_bltn (v := .ty "bool") rfl T.bool (by decide +kernel) rfl) (.ty _) (.int (b := false) (kit_ty (by decide +kernel)))))) (fun z => nomatch z)) rfl)
end
end Wk

namespace Sm
open PySem L2 DL
/-! ### the search for the fewest steps, as it runs -/
def fldM {α γ : Type} (f : γ → α → Option γ) : List α → γ → Option γ
  | [], s => some s
  | x :: xs, s => match f s x with
    | none => none
    | some t => fldM f xs t
theorem fldM_at {α γ : Type} {f : γ → α → Option γ} : ∀ {l : List α} {s r : γ}, fldM f l s = some r →
    r = l.foldl (fun s x => (f s x).getD s) s ∧ ∀ (n : Nat) (x : α), l[n]? = some x → ∃ t, f ((l.take n).foldl (fun s x => (f s x).getD s) s) x = some t
  | [], s, r, h => ⟨(Option.some.inj h).symm, fun n x e => by simp at e⟩
  | y :: l, s, r, h => by
    rw [fldM] at h
    cases e : f s y with
    | none => rw [e] at h; cases h
    | some t =>
      rw [e] at h
      obtain ⟨h1, h2⟩ := fldM_at h
      refine ⟨by rw [List.foldl_cons, e]; exact h1, fun n x hx => ?_⟩
      cases n with
      | zero =>
        have hx : y = x := by simpa using hx
        subst hx
        exact ⟨t, e⟩
      | succ n =>
        obtain ⟨u, hu⟩ := h2 n x (by simpa using hx)
        refine ⟨u, ?_⟩
        rw [List.take_succ_cons, List.foldl_cons, e]
        exact hu
theorem fldM_inv {α γ : Type} {f : γ → α → Option γ} (I : γ → Prop) : ∀ {l : List α} {s r : γ}, (∀ s x t, x ∈ l → I s → f s x = some t → I t) → I s → fldM f l s = some r → I r
  | [], s, r, _, i, h => by cases h; exact i
  | y :: l, s, r, st, i, h => by
    rw [fldM] at h
    cases e : f s y with
    | none => rw [e] at h; cases h
    | some t =>
      rw [e] at h
      exact fldM_inv I (fun s x t hx => st s x t (List.mem_cons_of_mem _ hx)) (st s y t List.mem_cons_self i e) h
/-- a stretch of at most six things -/
def okP : List Int → Bool
  | [a, b] => decide (0 ≤ a) && (decide (a ≤ b) && decide (b ≤ 5))
  | _ => false
theorem okP_ex {k : List Int} (h : okP k = true) : ∃ a b : Nat, k = [(a : Int), (b : Int)] ∧ a ≤ b ∧ b ≤ 5 := by
  match k, h with
  | [a, b], h =>
    simp only [okP, Bool.and_eq_true] at h
    have h1 := of_decide_eq_true h.1
    have h2 := of_decide_eq_true h.2.1
    have h3 := of_decide_eq_true h.2.2
    refine ⟨a.toNat, b.toNat, ?_, by omega, by omega⟩
    rw [Int.toNat_of_nonneg h1, Int.toNat_of_nonneg (by omega)]
theorem okP_mk {a b : Nat} (h : a ≤ b) (h2 : b ≤ 5) : okP [(a : Int), (b : Int)] = true := by
  simp only [okP, Bool.and_eq_true]
  exact ⟨decide_eq_true (by omega), decide_eq_true (by omega), decide_eq_true (by omega)⟩
def univP : List (List Int) := ((List.range 6).map fun a : Nat => (List.range 6).map fun b : Nat => [(a : Int), (b : Int)]).flatten
theorem univ_in {k : List Int} (h : okP k = true) : k ∈ univP := by
  obtain ⟨a, b, rfl, h1, h2⟩ := okP_ex h
  exact List.mem_flatten.mpr ⟨_, List.mem_map.mpr ⟨a, List.mem_range.mpr (by omega), rfl⟩, List.mem_map.mpr ⟨b, List.mem_range.mpr (by omega), rfl⟩⟩
theorem univ_hash : ∀ x ∈ univP, ∀ y ∈ univP, nhash x = nhash y → x = y := by decide +kernel
structure KD (d : Dc) : Prop where
  nd : (d.map (·.1)).Nodup
  ok : ∀ p ∈ d, okP p.1 = true
theorem KD.nil : KD [] := ⟨List.nodup_nil, fun _ z => nomatch z⟩
theorem KD.hash {d : Dc} (h : KD d) : ((d.map (·.1)).map nhash).Nodup := by
  unfold List.Nodup
  rw [List.pairwise_map]
  refine List.Pairwise.imp_of_mem (fun {x y} hx hy hn e => ?_) h.nd
  obtain ⟨p, hp, rfl⟩ := List.mem_map.mp hx
  obtain ⟨q, hq, rfl⟩ := List.mem_map.mp hy
  exact hn (univ_hash _ (univ_in (h.ok p hp)) _ (univ_in (h.ok q hq)) e)
theorem KD.put {d : Dc} {k : List Int} (h : KD d) (hk : okP k = true) (v : Int) : KD (kPut d k v) := by
  unfold kPut
  split
  · refine ⟨?_, fun p hp => ?_⟩
    · have e : (d.map fun p => if p.1 = k then (p.1, v) else p).map (·.1) = d.map (·.1) := by
        rw [List.map_map]
        refine List.map_congr_left fun p _ => ?_
        show (if p.1 = k then (p.1, v) else p).1 = p.1
        by_cases z : p.1 = k
        · rw [if_pos z]
        · rw [if_neg z]
      rw [e]
      exact h.nd
    · obtain ⟨q, hq, rfl⟩ := List.mem_map.mp hp
      by_cases z : q.1 = k
      · rw [if_pos z]; exact h.ok q hq
      · rw [if_neg z]; exact h.ok q hq
  · rename_i hn
    refine ⟨?_, fun p hp => ?_⟩
    · rw [List.map_append, List.nodup_append]
      refine ⟨h.nd, by simp, fun a ha b hb e => hn ?_⟩
      have hb : b = k := List.mem_singleton.mp hb
      subst hb e
      obtain ⟨p, hp, e⟩ := List.mem_map.mp ha
      exact List.any_eq_true.mpr ⟨p, hp, decide_eq_true e⟩
    · rcases List.mem_append.mp hp with hp | hp
      · exact h.ok p hp
      · rw [List.mem_singleton.mp hp]; exact hk
theorem kPut_len (d : Dc) (k : List Int) (v : Int) : (kPut d k v).length ≤ d.length + 1 := by
  unfold kPut
  split
  · rw [List.length_map]; omega
  · rw [List.length_append]; exact Nat.le_refl _
theorem kGet_put {d : Dc} {k : List Int} {v : Int} : kGet (kPut d k v) k = some v := by
  unfold kGet kPut
  split
  · rename_i h
    induction d with
    | nil => simp at h
    | cons p d ih =>
      rw [List.map_cons, List.find?_cons]
      by_cases e : p.1 = k
      · simp [e]
      · rw [List.any_cons, decide_eq_false e, Bool.false_or] at h
        simp only [e, if_false, decide_false]
        exact ih h
  · rename_i h
    have hn : d.find? (fun p => decide (p.1 = k)) = none := List.find?_eq_none.mpr fun p hp z => h (List.any_eq_true.mpr ⟨p, hp, z⟩)
    rw [List.find?_append, hn]
    simp
theorem KD.le {d : Dc} (h : KD d) : d.length ≤ 36 := by
  have := nd_len h.nd (M := univP) fun x hx => by
    obtain ⟨p, hp, rfl⟩ := List.mem_map.mp hx
    exact univ_in (h.ok p hp)
  rw [List.length_map] at this
  exact this
/-- two spans more -/
def partF (deep : Int) (f : Dc) : List Int → Option Dc
  | [a, b] => if deep < (leastD (b - a + 1).toNat : Int) then none else if a < b then some (kPut f [a, b] (min ((kGet f [a, b]).getD deep) deep)) else some f
  | _ => none
def partsF (deep : Int) (f : Dc) (ps : List (List Int)) : Option Dc := fldM (partF deep) ps f
theorem partsF_KD {deep : Int} {f g : Dc} {ps : List (List Int)} (hp : ∀ k ∈ ps, okP k = true) (h : KD f) (e : partsF deep f ps = some g) : KD g :=
  fldM_inv KD (fun s x t hx i e => by
    obtain ⟨a, b, rfl, h1, h2⟩ := okP_ex (hp x hx)
    rw [partF] at e
    split at e
    · cases e
    · split at e
      · cases e; exact i.put (okP_mk h1 h2) _
      · cases e; exact i) h e
def prs (d : Dc) : List (Int × Int) := d.map fun p => match p.1 with
  | [a, b] => (a, b)
  | _ => (0, 0)
theorem prs_ok {d : Dc} (h : KD d) : d.map (·.1) = (prs d).map fun p => [p.1, p.2] := by
  unfold prs
  rw [List.map_map]
  refine List.map_congr_left fun p hp => ?_
  obtain ⟨a, b, e, _⟩ := okP_ex (h.ok p hp)
  simp only [Function.comp, e]
theorem prs_mem {d : Dc} (h : KD d) {p : Int × Int} (hp : p ∈ prs d) : okP [p.1, p.2] = true := by
  have : [p.1, p.2] ∈ d.map (·.1) := by rw [prs_ok h]; exact List.mem_map.mpr ⟨p, hp, rfl⟩
  obtain ⟨q, hq, e⟩ := List.mem_map.mp this
  rw [← e]
  exact h.ok q hq
def leftF (wanted cuts : Dc) : List (List Int) := ((prs wanted).filter fun p => !(kGet cuts [p.1, p.2]).isSome).map fun p => [p.2 - p.1, -p.1, p.1, p.2]
abbrev GoT := Int × Option Dc
def goS (go : GoT → Dc → Dc → Option GoT) (wanted cuts : Dc) (a b dp : Int) (st : GoT) (i : Nat) : Option GoT :=
  match partsF (dp - 1) wanted [[a, a + i], [a + i + 1, b]] with
  | none => some st
  | some later => go st later (kPut cuts [a, b] (a + i))
def goF : Nat → GoT → Dc → Dc → Option GoT
  | 0, _, _, _ => none
  | n + 1, st, wanted, cuts =>
    if st.1 < (wanted.length : Int) then some st
    else match leftF wanted cuts with
      | [] => some ((wanted.length : Int) - 1, some cuts)
      | x :: xs => match maxL x xs with
        | [_, _, a, b] => (match kGet wanted [a, b] with
          | none => none
          | some dp => fldM (goS (goF n) wanted cuts a b dp) (List.range (b - a).toNat) st)
        | _ => none
theorem maxL_mem : ∀ (xs : List (List Int)) (x : List Int), maxL x xs ∈ x :: xs
  | [], x => List.mem_singleton.mpr rfl
  | y :: xs, x => by
    unfold maxL
    rw [List.foldl_cons]
    by_cases h : ltI x y = true
    · rw [if_pos h]; exact List.mem_cons_of_mem _ (maxL_mem xs y)
    · rw [if_neg h]
      rcases List.mem_cons.mp (maxL_mem xs x) with e | e
      · exact List.mem_cons.mpr (.inl e)
      · exact List.mem_cons_of_mem _ (List.mem_cons_of_mem _ e)
/-! ### the net of the cuts -/
def insR (x : List Int) : List (List Int) → List (List Int)
  | [] => [x]
  | y :: ys => if ltI y x = true then y :: insR x ys else x :: y :: ys
def srtR (l : List (List Int)) : List (List Int) := l.foldr insR []
theorem insR_perm (x : List Int) : ∀ l, (insR x l).Perm (x :: l)
  | [] => .refl _
  | y :: ys => by
    rw [insR]
    split
    · exact ((insR_perm x ys).cons y).trans (.swap ..)
    · exact .refl _
theorem srtR_perm : ∀ l, (srtR l).Perm l
  | [] => .refl _
  | x :: l => by
    show (insR x (srtR l)).Perm _
    exact (insR_perm x _).trans ((srtR_perm l).cons x)
abbrev NeT := Dc × List (Nat × Nat)
def netS (wide : Nat) (cuts : Dc) (st : NeT) : List Int → Option NeT
  | [_, a, b] => (match kGet cuts [a, b] with
    | none => none
    | some c => match kGet st.1 [a, c], kGet st.1 [c + 1, b] with
      | some x, some y => if 0 ≤ x ∧ 0 ≤ y then some (kPut st.1 [a, b] ((wide : Int) + ((st.2.length + 1 : Nat) : Int) - 1), st.2 ++ [(x.toNat, y.toNat)]) else none
      | _, _ => none)
  | _ => none
def nodes0 (wide : Nat) : Dc := (List.range wide).foldl (fun d (i : Nat) => kPut d [(i : Int), (i : Int)] (i : Int)) []
def natO (o : Option Int) : Option Nat := match o with
  | some x => if 0 ≤ x then some x.toNat else none
  | none => none
def outS (nodes : Dc) (l : List Nat) (i : Nat) : Option (List Nat) := (natO (kGet nodes [0, (i : Int)])).map fun x => l ++ [x]
def srtC (cuts : Dc) : List (List Int) := srtR ((prs cuts).map fun p => [p.2 - p.1, p.1, p.2])
def netF (wide : Nat) (cuts : Dc) : Option Nt :=
  if (srtC cuts).Pairwise (fun x y => ltI y x = false) then
    match fldM (netS wide cuts) (srtC cuts) (nodes0 wide, []) with
    | none => none
    | some st => (fldM (outS st.1) (List.range wide) []).map fun o => ⟨wide, st.2, o⟩
  else none
def want0 (wide deep : Nat) : Dc := (List.range (wide - 1)).foldl (fun d (i : Nat) => kPut d [0, ((1 + i : Nat) : Int)] (deep : Int)) []
def leastF (wide deep : Nat) : Option Nt :=
  match goF 16 ((wide : Int) * wide, none) (want0 wide deep) [] with
  | some (_, some cuts) => if (cuts.map (·.1)).Nodup ∧ ∀ p ∈ cuts, okP p.1 = true then netF wide cuts else none
  | _ => none
theorem netS_ex {wide : Nat} {cuts : Dc} {st t : NeT} {k : List Int} (h : netS wide cuts st k = some t) : ∃ l a b c : Int, ∃ x y : Nat, k = [l, a, b] ∧ kGet cuts [a, b] = some c ∧ kGet st.1 [a, c] = some (x : Int) ∧ kGet st.1 [c + 1, b] = some (y : Int) ∧ t = (kPut st.1 [a, b] ((wide : Int) + ((st.2.length + 1 : Nat) : Int) - 1), st.2 ++ [(x, y)]) := by
  match k, h with
  | [l, a, b], h =>
    rw [netS] at h
    cases h1 : kGet cuts [a, b] with
    | none => rw [h1] at h; cases h
    | some c =>
      rw [h1] at h
      dsimp only at h
      cases h2 : kGet st.1 [a, c] with
      | none => rw [h2] at h; cases h
      | some x =>
        rw [h2] at h
        cases h3 : kGet st.1 [c + 1, b] with
        | none => rw [h3] at h; cases h
        | some y =>
          rw [h3] at h
          dsimp only at h
          split at h
          · rename_i hz
            cases h
            exact ⟨l, a, b, c, x.toNat, y.toNat, rfl, h1, by rw [h2, Int.toNat_of_nonneg hz.1], by rw [h3, Int.toNat_of_nonneg hz.2], rfl⟩
          · cases h
theorem outS_all {nodes : Dc} : ∀ {l acc o : List Nat}, fldM (outS nodes) l acc = some o → ∃ t : List Nat, o = acc ++ t ∧ t.length = l.length ∧ ∀ (i x : Nat), l[i]? = some x → kGet nodes [0, (x : Int)] = some ((t.getD i 0 : Nat) : Int)
  | [], acc, o, h => by cases h; exact ⟨[], by simp, rfl, fun i x e => by simp at e⟩
  | y :: l, acc, o, h => by
    rw [fldM] at h
    cases e : outS nodes acc y with
    | none => rw [e] at h; cases h
    | some u =>
      rw [e] at h
      obtain ⟨t, h1, h2, h3⟩ := outS_all h
      unfold outS at e
      cases e2 : natO (kGet nodes [0, (y : Int)]) with
      | none => rw [e2] at e; cases e
      | some v =>
        rw [e2] at e
        cases e
        refine ⟨v :: t, by rw [h1, List.append_assoc]; rfl, by rw [List.length_cons, List.length_cons, h2], fun i x hx => ?_⟩
        cases i with
        | zero =>
          have hx : y = x := by simpa using hx
          subst hx
          cases e3 : kGet nodes [0, (y : Int)] with
          | none => rw [e3] at e2; cases e2
          | some z =>
            rw [e3, natO] at e2
            split at e2
            · rename_i hz
              cases e2
              rw [List.getD_cons_zero, Int.toNat_of_nonneg hz]
            · cases e2
        | succ i =>
          rw [List.getD_cons_succ]
          exact h3 i x (by simpa using hx)
theorem nodes_len (l : List Nat) : ∀ d : Dc, (l.foldl (fun d (i : Nat) => kPut d [(i : Int), (i : Int)] (i : Int)) d).length ≤ d.length + l.length := by
  induction l with
  | nil => intro d; exact Nat.le_refl _
  | cons i l ih =>
    intro d
    rw [List.foldl_cons, List.length_cons]
    have := ih (kPut d [(i : Int), (i : Int)] (i : Int))
    have := kPut_len d [(i : Int), (i : Int)] (i : Int)
    omega
theorem want0_KD {w deep : Nat} (hw : w ≤ 6) : KD (want0 w deep) := by
  unfold want0
  have go : ∀ (l : List Nat) (d : Dc), (∀ i ∈ l, i < w - 1) → KD d → KD (l.foldl (fun d (i : Nat) => kPut d [0, ((1 + i : Nat) : Int)] (deep : Int)) d) := by
    intro l
    induction l with
    | nil => intro d _ h; exact h
    | cons i l ih =>
      intro d hl h
      rw [List.foldl_cons]
      have hi := hl i List.mem_cons_self
      exact ih _ (fun j hj => hl j (List.mem_cons_of_mem _ hj)) (h.put (okP_mk (a := 0) (b := 1 + i) (by omega) (by omega)) _)
  exact go _ _ (fun i hi => List.mem_range.mp hi) KD.nil
/-! ### the law's own look -/
abbrev DeT := List Int × Dc
def deepS (rec : Int → Int → Dc → Option (Int × Dc)) (a b : Nat) (st : DeT) (i : Nat) : Option DeT :=
  match rec a ((a + i : Nat) : Int) st.2 with
  | none => none
  | some (v1, f1) => match rec ((a + i : Nat) + 1) b f1 with
    | none => none
    | some (v2, f2) => some (st.1 ++ [1 + max v1 v2], f2)
def minI : List Int → Int
  | [] => 0
  | x :: xs => xs.foldl min x
def maxI : List Int → Int
  | [] => 0
  | x :: xs => xs.foldl max x
def deepF (some' : List (Int × Int)) : Nat → Int → Int → Dc → Option (Int × Dc)
  | 0, _, _, _ => none
  | n + 1, a, b, f =>
    if a = b then some (0, f)
    else if 0 < a ∧ (a, b) ∉ some' then some (99, f)
    else match kGet f [a, b] with
      | some v => some (v, f)
      | none => match fldM (deepS (deepF some' n) a.toNat b.toNat) (List.range (b.toNat - a.toNat)) ([], f) with
        | none => none
        | some st => some (minI st.1, kPut st.2 [a, b] (minI st.1))
def everyF (w : Nat) : List (Int × Int) := (List.range (w - 1)).foldl (fun l (i : Nat) => l ++ (List.range (w - (1 + i + 1))).map fun j : Nat => (((1 + i : Nat) : Int), ((1 + i + 1 + j : Nat) : Int))) []
def setsF (l : List (Int × Int)) : List (List (Int × Int)) := l.foldl (fun sets p => sets ++ sets.map fun z => z ++ [p]) [[]]
def valS (some' : List (Int × Int)) (st : DeT) (i : Nat) : Option DeT := (deepF some' 7 0 i st.2).map fun r => (st.1 ++ [r.1], r.2)
def bestS (w deep : Nat) (best : Option Nat) (some' : List (Int × Int)) : Option (Option Nat) :=
  if best = none ∨ ∃ b ∈ best, some'.length < b then
    match fldM (valS some') (List.range w) ([], []) with
    | none => none
    | some st => some (if maxI st.1 ≤ deep then some some'.length else best)
  else some best
def fewF (w deep : Nat) : Option (Option Nat) := fldM (bestS w deep) (setsF (everyF w)) none
end Sm

namespace Sm
open PySem L2 DL
def caseB (w deep : Nat) : Bool := match leastF w deep, fewF w deep with
  | some n, some (some k) => goodB n && (decide (n.wide = w) && (decide (wrongN n "any" = none) && (decide (n.depth ≤ deep) && decide (n.steps.length = w - 1 + k))))
  | _, _ => false
theorem case_1 : ∀ deep < 6, leastD 1 ≤ deep → caseB 1 deep = true := by decide +kernel
theorem case_2 : ∀ deep < 6, leastD 2 ≤ deep → caseB 2 deep = true := by decide +kernel
theorem case_3 : ∀ deep < 6, leastD 3 ≤ deep → caseB 3 deep = true := by decide +kernel
theorem case_4 : ∀ deep < 6, leastD 4 ≤ deep → caseB 4 deep = true := by decide +kernel
theorem case_5 : ∀ deep < 6, leastD 5 ≤ deep → caseB 5 deep = true := by decide +kernel
theorem case_6 : ∀ deep < 6, leastD 6 ≤ deep → caseB 6 deep = true := by decide +kernel
end Sm

namespace Wk
open PySem PySem.Spec PyProof.Rows L2 DL Sm
section
variable {Pg : Program} {w : World} {K : PySem.W.Frag} {mg : Str → Option Value} {base : Heap}
theorem ix2_0 (a b : Int) : L2.atI [a, b] 0 = some a := rfl
theorem ix2_1 (a b : Int) : L2.atI [a, b] 1 = some b := rfl
def eDo : Option Dc → D
  | none => .non
  | some d => .dct (eDc d)
abbrev sParts : Stmt := topS 10
theorem scParts : FnScope ["wanted", "parts", "deep", "found", "part"] ["wanted", "parts", "deep"] (defScope sParts) := ⟨rfl, rfl, rfl, by decide +kernel, rfl, by decide +kernel, by decide +kernel⟩
def preParts : List D → Res → Prop := fun ds r => ∃ (f : Dc) (ps : List (List Int)) (deep : Int), KD f ∧ (∀ k ∈ ps, okP k = true) ∧ ds = [.dct (eDc f), .lst (ps.map .ky), .int deep] ∧ r = .ok (eDo (partsF deep f ps))
theorem fn_parts {f : Addr} {fd : FuncData} (F : Fun K "with_parts" "with_parts" sParts f fd) (hb : Binds K fd ["wanted", "parts", "deep"] []) (hm : mg "with_parts" = some (.ref f)) (T : Bt mg) {cK : Addr} (Fleast_depth : Fn Pg w K mg base "least_depth" 1 1 (preLeastD cK)) : Fn Pg w K mg base "with_parts" 3 2 preParts := by
  refine fn_ok (ps := ["wanted", "parts", "deep"]) F scParts hb hm (fun ds r ⟨f, ps, deep, _, _, h, _⟩ => by rw [h]; rfl) (by decide) fun cdv A outer s H E C ds r h => ?_
  obtain ⟨f, ps, deep, hf, hps, rfl, rfl⟩ := h
  show JB _ _ _ ⟨[.d (.dct (eDc f)), .d (.lst (ps.map .ky)), .d (.int deep), .u, .u], []⟩ _
  refine jb_cons (js_copyD 3 C T.dict (je_var 0) hf.hash ?_)
  refine jb_cons (js_for (fun i s' => ∃ g : Dc, KD g ∧ s' = ⟨[.d (.dct (eDc f)), .d (.lst (ps.map .ky)), .d (.int deep), .c 0, .u], [.dic (cDc g)]⟩ ∧ fldM (partF deep) (ps.drop i) g = partsF deep f ps) C (ji_list (je_var 1)) ⟨f, hf, rfl, rfl⟩ ?_ ?_)
  · rintro i d s' hd ⟨g, hg, rfl, hr⟩
    rw [List.getElem?_map] at hd
    cases e : ps[i]? with
    | none => rw [e] at hd; cases hd
    | some k =>
      rw [e] at hd
      have hd : D.ky k = d := Option.some.inj hd
      subst hd
      have hk := hps k (List.mem_of_getElem? e)
      obtain ⟨a, b, rfl, h1, h2⟩ := okP_ex hk
      have ed : ps.drop i = [(a : Int), (b : Int)] :: ps.drop (i + 1) := by
        obtain ⟨hi, e2⟩ := List.getElem?_eq_some_iff.mp e
        rw [← e2, List.drop_eq_getElem_cons hi]
      rw [ed, fldM, partF] at hr
      have e3 : ((b : Int) - (a : Int) + 1) = ((b - a + 1 : Nat) : Int) := by omega
      have e4 : ((b : Int) - (a : Int) + 1).toNat = b - a + 1 := by omega
      rw [e4] at hr
      refine jg_name 4 C.nd ?_
      refine jb_cons (js_if (jt_cmp C (je_call C Fleast_depth (by decide) (jd_cons (je_as (je_bin (je_bin (je_ixK (je_var 4) je_int (ix2_1 _ _)) (je_ixK (je_var 4) je_int (ix2_0 _ _)) .subI) je_int .addI) (show _ = D.int ((b - a + 1 : Nat) : Int) by rw [← e3])) jd_nil) (.inl ⟨b - a + 1, by omega, by omega, rfl, rfl⟩)) (je_var 2) .gt) (fun hb => ?_) (fun hb => ?_))
      · have hb := of_decide_eq_true hb
        rw [if_pos hb] at hr
        refine jb_cons (js_ret je_non ?_)
        show Res.ok (eDo (partsF deep f ps)) = .ok .non
        rw [← hr]
        rfl
      · have hb := of_decide_eq_false hb
        rw [if_neg hb] at hr
        refine jb_nil ?_
        refine jb_cons (js_if (jt_cmp C (je_ixK (je_var 4) je_int (ix2_0 _ _)) (je_ixK (je_var 4) je_int (ix2_1 _ _)) .lt) (fun hb2 => ?_) (fun hb2 => ?_))
        · have hb2 := of_decide_eq_true hb2
          rw [if_pos hb2] at hr
          have hl := hg.le
          refine jb_cons (js_dputK 3 0 g C (je_min2 C T.min (je_getK 3 0 g C (je_var 4) (je_var 2)) (je_var 2)) (je_var 4) (by rw [sizeLine_eq]; omega) ?_)
          exact jb_nil (jb_fin (t := ⟨[.d (.dct (eDc f)), .d (.lst (ps.map .ky)), .d (.int deep), .c 0, .u], [.dic (cDc _)]⟩) ⟨_, hg.put hk _, rfl, hr⟩)
        · have hb2 := of_decide_eq_false hb2
          rw [if_neg hb2] at hr
          exact jb_nil (jb_fin (t := ⟨[.d (.dct (eDc f)), .d (.lst (ps.map .ky)), .d (.int deep), .c 0, .u], [.dic (cDc g)]⟩) ⟨g, hg, rfl, hr⟩)
  · rintro s' ⟨g, hg, rfl, hr⟩
    rw [List.length_map, List.drop_length, fldM] at hr
    refine jb_lockD 3 0 g ?_
    refine jb_cons (js_ret (je_var 3) ?_)
    show Res.ok (eDo (partsF deep f ps)) = _
    rw [← hr]
    rfl
end
end Wk

namespace Wk
open PySem PySem.Spec PyProof.Rows L2 DL Sm
/-- what the top has made of the class Search -/
structure SrcF (K : PySem.W.Frag) (C : Addr) : Prop where
  cl : Cls K C
  n_most : NoAttr K C "most"
  n_best : NoAttr K C "best"
def insS (C : Addr) (st : GoT) : Cl := .ins C [("most", .d (.int st.1)), ("best", .d (eDo st.2))]
def eI4 (k : List Int) : D := .tup (k.map .int)
section
variable {Pg : Program} {w : World} {K : PySem.W.Frag} {mg : Str → Option Value} {base : Heap}
abbrev sSinit : Stmt := inClass (topS 11) 0
theorem scSinit : FnScope ["self", "most"] ["self", "most"] (defScope sSinit) := ⟨rfl, rfl, rfl, by decide +kernel, rfl, by decide +kernel, by decide +kernel⟩
theorem fn_sinit {f C : Addr} {fd : FuncData} (F : Fun K "__init__" "Search.__init__" sSinit f fd) (hM : SrcF K C) : FnOk Pg w K mg base (L2.CX Pg w) 1 f fd ["self", "most"] (spInitS C "most" "best") := by
  refine F.okX scSinit (fun vs H Q E h => ?_) (fun cdv A outer s H vs Q E hr h => ?_)
  · obtain ⟨x, dx, v, rfl, _⟩ := h
    rfl
  · obtain ⟨x, dx, v, rfl, hx, q⟩ := h
    refine ⟨_, pss_cons (ps_fld (pv 0) (pv 1) rfl) (pss_one (ps_fld (pv 0) pe_non rfl)), ?_⟩
    refine ⟨_, rfl, _, rfl, x, C, dx, [], rfl, hx, hM.cl, hM.n_most, by show 0 < 1000; decide, ?_⟩
    refine ⟨_, rfl, x, C, dx, [("most", v)], rfl, ?_, hM.cl, hM.n_best, by show 1 < 1000; decide, ?_⟩
    · rw [upd_same]
      rfl
    · refine q _ ?_ (fun b o hb hbx => ?_)
      · rw [upd_same]
        refine congrArg (fun l => some (HO.ins C dx l)) ?_
        show (if ("most" : Str) = "best" then _ else _) = _
        rw [if_neg (by decide)]
        rfl
      · rw [upd_ne hbx, upd_ne hbx]
        exact hb
abbrev sGo : Stmt := inClass (topS 11) 1
theorem scGo : FnScope ["self", "wanted", "cuts", "first", "last", "left", "span", "cut", "later", "more"] ["self", "wanted", "cuts"] (defScope sGo) := ⟨rfl, rfl, rfl, by decide +kernel, rfl, by decide +kernel, by decide +kernel⟩
def preGo (C : Addr) (n : Nat) : List Sl → List Cl → Res → List Cl → Prop := fun sls cl r cl' => ∃ (st st' : GoT) (wt ct : Dc), KD wt ∧ KD ct ∧ goF n st wt ct = some st' ∧ sls = [.c 1, .d (.dct (eDc wt)), .d (.dct (eDc ct))] ∧ cl = [.dead, insS C st] ∧ r = .ok .non ∧ cl' = [.dead, insS C st']
theorem mt_go {f C : Addr} {fd : FuncData} (F : Fun K "go" "Search.go" sGo f fd) (hb : Binds K fd ["self", "wanted", "cuts"] []) (hm : Meth K C "go" f) (T : Bt mg) (hM : SrcF K C) (Fwith_parts : Fn Pg w K mg base "with_parts" 3 2 preParts) : ∀ n, MtC Pg w K mg base C "go" 3 2 (n + 3) (preGo C n) := by
  intro n
  induction n with
  | zero =>
    refine mt_okC (k := 2) (ps := ["self", "wanted", "cuts"]) F scGo hb hm (fun sls cl r cl' ⟨st, st', wt, ct, _, _, _, h, _⟩ => by rw [h]; rfl) (by decide) fun cdv A outer s H E C sls cl r cl' _ h => ?_
    obtain ⟨st, st', wt, ct, _, _, h, _⟩ := h
    cases h
  | succ n ih =>
    refine mt_okC (k := n + 3) (ps := ["self", "wanted", "cuts"]) F scGo hb hm (fun sls cl r cl' ⟨st, st', wt, ct, _, _, _, h, _⟩ => by rw [h]; rfl) (by decide) fun cdv A outer s H E C sls cl r cl' _ h => ?_
    obtain ⟨st, st', wt, ct, hwt, hct, hgo, rfl, rfl, rfl, rfl⟩ := h
    have hwl := hwt.le
    rw [goF] at hgo
    show JB _ _ _ ⟨[.c 1, .d (.dct (eDc wt)), .d (.dct (eDc ct)), .u, .u, .u, .u, .u, .u, .u], [.dead, .ins _ [("most", .d (.int st.1)), ("best", .d (eDo st.2))]]⟩ _
    have elen : (((eDc wt).length : Nat) : Int) = ((wt.length : Nat) : Int) := by unfold eDc; rw [List.length_map]
    refine jb_cons (js_if (jt_cmp C (je_as (je_lenD T.len (je_var 1)) (congrArg D.int elen)) (je_fld 0 hM.cl hM.n_most) .gt) (fun hb => ?_) (fun hb => ?_))
    · have hb := of_decide_eq_true hb
      rw [if_pos hb] at hgo
      cases hgo
      exact jb_cons (js_retN ⟨rfl, rfl⟩)
    have hb := of_decide_eq_false hb
    rw [if_neg hb] at hgo
    refine jb_nil ?_
    have hps := prs_ok hwt
    have hpl : (prs wt).length ≤ sizeLine := by unfold prs; rw [List.length_map, sizeLine_eq]; omega
    have eleft : (((prs wt).filter fun p => !(kGet ct [p.1, p.2]).isSome).map fun p => (.tup [.int (p.2 - p.1), .int (-p.1), .int p.1, .int p.2] : D)) = (leftF wt ct).map eI4 := by
      unfold leftF
      rw [List.map_map]
      rfl
    refine jb_cons (js_setLc 5 C (lc_as (lc_keys2 3 4 wt (prs wt) (fun a b => !(kGet ct [a, b]).isSome) (fun a b => .tup [.int (b - a), .int (-a), .int a, .int b]) C (je_var 1) hps (Nat.le_refl _) (fun p hp => ?tst) (fun p hp _ => ?elt) hpl) eleft) ?_)
    case tst => exact fun CC s0 H0 C0 cl0 fp0 => jt_dninV (ns := [p.1, p.2]) (CC s0 H0 C0 cl0 fp0) (jd_cons (je_var 3) (jd_cons (je_var 4) jd_nil)) (je_var 2)
    case elt => exact fun s0 H0 C0 cl0 fp0 C => je_tup (jd_cons (je_bin (je_var 4) (je_var 3) .subI) (jd_cons (je_neg (je_var 3)) (jd_cons (je_var 3) (jd_cons (je_var 4) jd_nil))))
    have hlf : ∀ k ∈ leftF wt ct, ∃ a b : Nat, a ≤ b ∧ b ≤ 5 ∧ k = [(b : Int) - a, -(a : Int), (a : Int), (b : Int)] := fun k hk => by
      unfold leftF at hk
      obtain ⟨p, hp, rfl⟩ := List.mem_map.mp hk
      obtain ⟨a, b, e, h1, h2⟩ := okP_ex (prs_mem hwt (List.mem_filter.mp hp).1)
      injection e with e1 e2
      injection e2 with e2 _
      exact ⟨a, b, h1, h2, by rw [e1, e2]⟩
    cases hl : leftF wt ct with
    | nil =>
      rw [hl] at hgo
      cases hgo
      refine jb_cons (js_if (jt_not (jt_tru (je_var 5))) (fun hb2 => ?_) (fun hb2 => Bool.noConfusion hb2))
      refine jb_cons (js_fld 0 hM.cl hM.n_best (je_var 2) ?_)
      refine jb_cons (js_fld 0 hM.cl hM.n_most (je_bin (je_as (je_lenD T.len (je_var 1)) (congrArg D.int elen)) je_int .subI) ?_)
      exact jb_cons (js_retN ⟨rfl, rfl⟩)
    | cons x xs =>
      rw [hl] at hgo hlf
      refine jb_cons (js_if (jt_not (jt_tru (je_var 5))) (fun hb2 => Bool.noConfusion hb2) (fun hb2 => ?_))
      refine jb_nil ?_
      obtain ⟨a, b, h1, h2, em⟩ := hlf _ (maxL_mem xs x)
      dsimp only at hgo
      rw [em] at hgo
      dsimp only at hgo
      have okk := okP_mk h1 h2
      refine jb_cons (js_set (d := .ky [(a : Int), (b : Int)]) 6 C (je_as (je_cutK (ns := [(b : Int) - a, -(a : Int), (a : Int), (b : Int)]) (je_as (je_maxR C T.max (je_var 5)) (by rw [em])) (jo_some je_int) jo_none (by show ¬ (HT.sIx 4 0 (some 2) = 0 ∧ HT.sIx 4 4 none = 4); decide)) rfl) ?_)
      cases hg : kGet wt [(a : Int), (b : Int)] with
      | none => rw [hg] at hgo; cases hgo
      | some dp =>
        rw [hg] at hgo
        dsimp only at hgo
        have e4 : ((b : Int) - (a : Int)).toNat = b - a := by omega
        rw [e4] at hgo
        obtain ⟨efin, hat⟩ := fldM_at hgo
        refine jb_cons (js_fold (List.range (b - a)) (fun s i => (goS (goF n) wt ct a b dp s i).getD s) st (fun s => ⟨[.c 1, .d (.dct (eDc wt)), .d (.dct (eDc ct)), .u, .u, .d (.lst ((x :: xs).map eI4)), .d (.ky [(a : Int), (b : Int)]), .u, .u, .u], [.dead, insS _ s]⟩) (fun _ _ => True) (enc := fun i : Nat => D.int ((a + i : Nat) : Int)) C (ji_range2 T.range (je_ixK (je_var 6) je_int (ix2_0 _ _)) (je_ixK (je_var 6) je_int (ix2_1 _ _)) (by omega)) True.intro ?_ ?_)
        · intro i j s0 ha hs0 _
          obtain ⟨t, ht⟩ := hat i j ha
          rw [← hs0] at ht
          have hj : j < b - a := List.mem_range.mp (List.mem_of_getElem? ha)
          have hfin : (goS (goF n) wt ct a b dp s0 j).getD s0 = t := by rw [ht]; rfl
          rw [hfin]
          unfold goS at ht
          refine jg_name 7 C.nd ?_
          refine jb_drop ?_
          have okp : ∀ k ∈ [[(a : Int), (a : Int) + (j : Int)], [(a : Int) + (j : Int) + 1, (b : Int)]], okP k = true := fun k hk => by
            rcases List.mem_cons.mp hk with rfl | hk
            · have := okP_mk (a := a) (b := a + j) (by omega) (by omega)
              rw [Int.natCast_add] at this
              exact this
            · rw [List.mem_singleton.mp hk]
              have := okP_mk (a := a + j + 1) (b := b) (by omega) (by omega)
              rw [Int.natCast_add, Int.natCast_add] at this
              exact this
          cases hp : partsF (dp - 1) wt [[(a : Int), (a : Int) + (j : Int)], [(a : Int) + (j : Int) + 1, (b : Int)]] with
          | none =>
            rw [hp] at ht
            cases ht
            refine jb_cons (js_set (d := .non) 8 C (je_call C Fwith_parts (by omega) (jd_cons (je_var 1) (jd_cons (je_f (jf_lst (jd_cons (je_key (ns := [(a : Int), (a : Int) + (j : Int)]) (jd_cons (je_ixK (je_var 6) je_int (ix2_0 _ _)) (jd_cons (je_as (je_var 7) (by rw [Int.natCast_add])) jd_nil))) (jd_cons (je_key (ns := [(a : Int) + (j : Int) + 1, (b : Int)]) (jd_cons (je_bin (je_as (je_var 7) (by rw [Int.natCast_add])) je_int .addI) (jd_cons (je_ixK (je_var 6) je_int (ix2_1 _ _)) jd_nil))) jd_nil)))) (jd_cons (je_bin (je_dgetK C (je_var 1) (je_var 6) hg) je_int .subI) jd_nil))) ⟨wt, [[(a : Int), (a : Int) + (j : Int)], [(a : Int) + (j : Int) + 1, (b : Int)]], dp - 1, hwt, okp, rfl, by rw [hp]; rfl⟩) ?_)
            refine jb_cons (js_if (jt_cmp C (je_var 8) je_non .notN) (fun hb3 => Bool.noConfusion hb3) (fun hb3 => ?_))
            exact jb_nil (jb_finD ⟨[.c 1, .d (.dct (eDc wt)), .d (.dct (eDc ct)), .u, .u, .d (.lst ((x :: xs).map eI4)), .d (.ky [(a : Int), (b : Int)]), .u, .u, .u], [.dead, insS _ s0]⟩ ⟨rfl, True.intro⟩)
          | some later =>
            rw [hp] at ht
            dsimp only at ht
            have hlater := partsF_KD okp hwt hp
            refine jb_cons (js_set (d := .dct (eDc later)) 8 C (je_call C Fwith_parts (by omega) (jd_cons (je_var 1) (jd_cons (je_f (jf_lst (jd_cons (je_key (ns := [(a : Int), (a : Int) + (j : Int)]) (jd_cons (je_ixK (je_var 6) je_int (ix2_0 _ _)) (jd_cons (je_as (je_var 7) (by rw [Int.natCast_add])) jd_nil))) (jd_cons (je_key (ns := [(a : Int) + (j : Int) + 1, (b : Int)]) (jd_cons (je_bin (je_as (je_var 7) (by rw [Int.natCast_add])) je_int .addI) (jd_cons (je_ixK (je_var 6) je_int (ix2_1 _ _)) jd_nil))) jd_nil)))) (jd_cons (je_bin (je_dgetK C (je_var 1) (je_var 6) hg) je_int .subI) jd_nil))) ⟨wt, [[(a : Int), (a : Int) + (j : Int)], [(a : Int) + (j : Int) + 1, (b : Int)]], dp - 1, hwt, okp, rfl, by rw [hp]; rfl⟩) ?_)
            refine jb_cons (js_if (jt_cmp C (je_var 8) je_non .notN) (fun hb3 => ?_) (fun hb3 => Bool.noConfusion hb3))
            have hcl := hct.le
            refine jb_cons (js_copyD 9 C T.dict (je_var 2) hct.hash ?_)
            refine jb_cons (js_dputK 9 2 ct C (je_as (je_var 7) (show _ = D.int ((a : Int) + (j : Int)) by rw [Int.natCast_add])) (je_var 6) (by rw [sizeLine_eq]; omega) ?_)
            refine jb_lockD 9 2 (kPut ct [(a : Int), (b : Int)] ((a : Int) + (j : Int))) ?_
            refine jb_cons (js_expr (je_meth 0 C hM.cl ih (Nat.le_refl _) (ja_val (je_var 8) (ja_val (je_var 9) ja_nil)) ⟨s0, t, later, kPut ct [(a : Int), (b : Int)] ((a : Int) + (j : Int)), hlater, hct.put okk _, ht, rfl, rfl, rfl, rfl⟩) ?_)
            exact jb_nil (jb_finD ⟨[.c 1, .d (.dct (eDc wt)), .d (.dct (eDc ct)), .u, .u, .d (.lst ((x :: xs).map eI4)), .d (.ky [(a : Int), (b : Int)]), .u, .u, .u], [.dead, insS _ t]⟩ ⟨rfl, True.intro⟩)
        · intro _
          rw [← efin]
          exact jb_nil ⟨rfl, rfl⟩
end
end Wk

namespace Wk
open PySem PySem.Spec PyProof.Rows L2 DL Sm
theorem range_getD (o : List Nat) : (List.range o.length).map (fun i => eN (o.getD i 0)) = o.map eN := by
  refine List.ext_getElem? fun i => ?_
  rw [List.getElem?_map, List.getElem?_map]
  by_cases h : i < o.length
  · rw [List.getElem?_range h, List.getElem?_eq_getElem h, Option.map_some, Option.map_some, List.getD_eq_getElem?_getD, List.getElem?_eq_getElem h]
    rfl
  · rw [List.getElem?_eq_none (by rw [List.length_range]; omega), List.getElem?_eq_none (by omega)]
    rfl
def eI3 (k : List Int) : D := .tup (k.map .int)
section
variable {Pg : Program} {w : World} {K : PySem.W.Frag} {mg : Str → Option Value} {base : Heap}
abbrev sNetOf : Stmt := topS 12
theorem scNetOf : FnScope ["wide", "cuts", "nodes", "thing", "steps", "first", "last", "length", "cut"] ["wide", "cuts"] (defScope sNetOf) := ⟨rfl, rfl, rfl, by decide +kernel, rfl, by decide +kernel, by decide +kernel⟩
def preNetOf : List D → Res → Prop := fun ds r => ∃ (w : Nat) (cuts : Dc) (n : Nt), w ≤ 6 ∧ KD cuts ∧ netF w cuts = some n ∧ ds = [.int (w : Nat), .dct (eDc cuts)] ∧ r = .ok n.e
theorem fn_netof {f : Addr} {fd : FuncData} (F : Fun K "net_of" "net_of" sNetOf f fd) (hb : Binds K fd ["wide", "cuts"] []) (hm : mg "net_of" = some (.ref f)) (T : Bt mg) : Fn Pg w K mg base "net_of" 2 1 preNetOf := by
  refine fn_ok (ps := ["wide", "cuts"]) F scNetOf hb hm (fun ds r ⟨w, cuts, n, _, _, _, h, _⟩ => by rw [h]; rfl) (by decide) fun cdv A outer s H E C ds r h => ?_
  obtain ⟨w, cuts, n, hw, hc, hn, rfl, rfl⟩ := h
  have hcl := hc.le
  show JB _ _ _ ⟨[.d (.int (w : Nat)), .d (.dct (eDc cuts)), .u, .u, .u, .u, .u, .u, .u], []⟩ _
  unfold netF at hn
  split at hn
  rotate_left
  · cases hn
  rename_i hpw
  cases hl : fldM (netS w cuts) (srtC cuts) (nodes0 w, []) with
  | none => rw [hl] at hn; cases hn
  | some st =>
    rw [hl] at hn
    dsimp only at hn
    cases ho : fldM (outS st.1) (List.range w) [] with
    | none => rw [ho] at hn; cases hn
    | some o =>
      rw [ho] at hn
      cases hn
      obtain ⟨efin, hat⟩ := fldM_at hl
      have hn0 : (nodes0 w).length ≤ w := by
        have := nodes_len (List.range w) []
        rw [List.length_range, List.length_nil, Nat.zero_add] at this
        exact this
      have hsl : (srtC cuts).length ≤ 36 := by
        unfold srtC prs
        rw [(srtR_perm _).length_eq, List.length_map, List.length_map]
        exact hcl
      refine jb_cons (js_newD 2 C ?_)
      refine jb_cons (js_fold (List.range w) (fun d (i : Nat) => kPut d [(i : Int), (i : Int)] (i : Int)) [] (fun d => ⟨[.d (.int (w : Nat)), .d (.dct (eDc cuts)), .c 0, .u, .u, .u, .u, .u, .u], [.dic (cDc d)]⟩) (fun i d => d.length ≤ i) (enc := fun i : Nat => D.int (i : Nat)) C (ji_range1 T.range (je_var 0) (by omega)) (Nat.zero_le _) ?_ ?_)
      · intro i j d ha _ hq
        have hi : i < w := by
          obtain ⟨h1, _⟩ := List.getElem?_eq_some_iff.mp ha
          rw [List.length_range] at h1
          exact h1
        refine jg_name 3 C.nd ?_
        refine jb_cons (js_dputC (ns := [(j : Int), (j : Int)]) 2 0 d C (je_var 3) (jd_cons (je_var 3) (jd_cons (je_var 3) jd_nil)) (by rw [sizeLine_eq]; omega) ?_)
        have := kPut_len d [(j : Int), (j : Int)] (j : Int)
        exact jb_fin (t := ⟨[.d (.int (w : Nat)), .d (.dct (eDc cuts)), .c 0, .u, .u, .u, .u, .u, .u], [.dic (cDc _)]⟩) ⟨rfl, by omega⟩
      intro _
      show JB _ _ _ ⟨[.d (.int (w : Nat)), .d (.dct (eDc cuts)), .c 0, .u, .u, .u, .u, .u, .u], [.dic (cDc (nodes0 w))]⟩ _
      refine jb_cons (js_new 4 C (jf_lst jd_nil) ?_)
      have hps := prs_ok hc
      have hpl : (prs cuts).length ≤ sizeLine := by unfold prs; rw [List.length_map, sizeLine_eq]; omega
      have eks : (((prs cuts).filter fun p => true).map fun p => (.tup [.int (p.2 - p.1), .int p.1, .int p.2] : D)) = ((prs cuts).map fun p => [p.2 - p.1, p.1, p.2]).map eI3 := by
        rw [List.filter_eq_self.mpr fun _ _ => rfl, List.map_map]
        rfl
      refine jb_cons (js_fold (srtC cuts) (fun s k => (netS w cuts s k).getD s) (nodes0 w, []) (fun s => ⟨[.d (.int (w : Nat)), .d (.dct (eDc cuts)), .c 0, .u, .c 1, .u, .u, .u, .u], [.dic (cDc s.1), .lst (s.2.map eP)]⟩) (fun i s => s.1.length ≤ 6 + i ∧ s.2.length ≤ i) (enc := eI3) C (ji_list (je_f (jf_sortedR C T.sorted (je_f (jf_lc C (lc_as (lc_keys2 5 6 cuts (prs cuts) (fun _ _ => true) (fun a b => .tup [.int (b - a), .int a, .int b]) C (je_var 1) hps (Nat.zero_le _) (fun p hp _ => rfl) (fun p hp _ => ?elt) hpl) eks))) ?hne (srtR_perm _) hpw))) ⟨by show (nodes0 w).length ≤ _; omega, Nat.le_refl _⟩ ?_ ?_)
      case elt => exact fun s0 H0 C0 cl0 fp0 C => je_tup (jd_cons (je_bin (je_var 6) (je_var 5) .subI) (jd_cons (je_var 5) (jd_cons (je_var 6) jd_nil)))
      case hne =>
        intro k hk
        obtain ⟨p, _, rfl⟩ := List.mem_map.mp hk
        exact fun z => nomatch z
      · intro i k s0 ha hs0 hq
        obtain ⟨q1, q2⟩ := hq
        obtain ⟨t, ht⟩ := hat i k ha
        rw [← hs0] at ht
        have hfin : (netS w cuts s0 k).getD s0 = t := by rw [ht]; rfl
        rw [hfin]
        have hi : i < (srtC cuts).length := (List.getElem?_eq_some_iff.mp ha).1
        obtain ⟨l, a, b, c, x, y, rfl, g1, g2, g3, rfl⟩ := netS_ex ht
        refine jg_n3 7 5 6 C ?_
        refine jb_cons (js_set 8 C (je_dgetV (ns := [a, b]) C (je_var 1) (jd_cons (je_var 5) (jd_cons (je_var 6) jd_nil)) g1) ?_)
        refine jb_cons (js_app (xs := s0.2.map eP) 4 1 (d := eP (x, y)) (je_tup (jd_cons (je_dgetC (ns := [a, c]) 2 s0.1 C (jd_cons (je_var 5) (jd_cons (je_var 8) jd_nil)) g2) (jd_cons (je_dgetC (ns := [c + 1, b]) 2 s0.1 C (jd_cons (je_bin (je_var 8) je_int .addI) (jd_cons (je_var 6) jd_nil)) g3) jd_nil))) (by rw [List.length_map, sizeLine_eq]; omega) ?_)
        have e5 : (((s0.2.map eP ++ [eP (x, y)]).length : Nat) : Int) = ((s0.2.length + 1 : Nat) : Int) := by rw [List.length_append, List.length_map]; rfl
        refine jb_cons (js_dputC (ns := [a, b]) (v := (w : Int) + ((s0.2.length + 1 : Nat) : Int) - 1) 2 0 s0.1 C (je_view (je_bin (je_bin (je_var 0) (je_as (je_len T.len (je_var 4) .lst) (congrArg D.int e5)) .addI) je_int .subI)) (jd_cons (je_var 5) (jd_cons (je_var 6) jd_nil)) (by rw [sizeLine_eq]; omega) ?_)
        have := kPut_len s0.1 [a, b] ((w : Int) + ((s0.2.length + 1 : Nat) : Int) - 1)
        refine jb_fin (t := ⟨[.d (.int (w : Nat)), .d (.dct (eDc cuts)), .c 0, .u, .c 1, .u, .u, .u, .u], [.dic (cDc (kPut s0.1 [a, b] ((w : Int) + ((s0.2.length + 1 : Nat) : Int) - 1))), .lst ((s0.2 ++ [(x, y)]).map eP)]⟩) ⟨rfl, Nat.le_trans this (by omega), by rw [List.length_append]; show _ + 1 ≤ _; omega⟩ (by rw [List.map_append]; rfl)
      intro _
      rw [← efin]
      refine jb_freeze 4 1 ?_
      obtain ⟨t, e1, e2, e3⟩ := outS_all ho
      rw [List.nil_append] at e1
      subst e1
      rw [List.length_range] at e2
      refine jb_cons (js_ret (d := .tup [.int (w : Nat), .lst (st.2.map eP), .lst (o.map eN)]) (je_tup (jd_cons (je_var 0) (jd_cons (je_var 4) (jd_cons (je_f (jf_lc C (lc_as (lc_map 6 (List.range w) (f := fun i => eN (o.getD i 0)) (enc := fun i : Nat => D.int (i : Nat)) C (ji_range1 T.range (je_var 0) (by omega)) (fun i hi => ?ge) (by rw [List.length_range, sizeLine_eq]; omega)) (by rw [← e2]; exact range_getD o)))) jd_nil)))) rfl)
      case ge =>
        have hi := List.mem_range.mp hi
        exact fun s0 H0 C0 cl0 fp0 C => je_dgetC (ns := [0, (i : Int)]) 2 st.1 C (jd_cons je_int (jd_cons (je_var 6) jd_nil)) (e3 i i (by rw [List.getElem?_range hi]))
abbrev sLeast : Stmt := topS 13
theorem scLeast : FnScope ["wide", "deep", "wanted", "last", "search"] ["wide", "deep"] (defScope sLeast) := ⟨rfl, rfl, rfl, by decide +kernel, rfl, by decide +kernel, by decide +kernel⟩
def preLeast (cK : Addr) : List D → Res → Prop := fun ds r => ∃ (wd dp : Int), ds = [.int wd, .int dp] ∧ (((¬ (1 ≤ wd ∧ wd ≤ 6) ∨ dp < 0) ∧ r = .er cK) ∨ ∃ w d : Nat, 1 ≤ w ∧ w ≤ 6 ∧ wd = w ∧ dp = d ∧ ((d < leastD w ∧ r = .ok .non) ∨ (leastD w ≤ d ∧ ∃ n, leastF w d = some n ∧ r = .ok n.e)))
theorem fn_least {f C0 : Addr} {fd : FuncData} (F : Fun K "least_net" "least_net" sLeast f fd) (hb : Binds K fd ["wide", "deep"] []) (hm : mg "least_net" = some (.ref f)) (T : Bt mg) {cK : Addr} (xBadKind : ExcOf K mg "BadKind" cK) {t1 : Tok} (mMOST_WIDE_least : mg "MOST_WIDE_least" = some (.int 6 t1)) (hM : SrcF K C0) (MS : MkS Pg w K mg base "Search" C0 "most" "best" 1) (Fgo : MtC Pg w K mg base C0 "go" 3 2 19 (preGo C0 16)) (Fleast_depth : Fn Pg w K mg base "least_depth" 1 1 (preLeastD cK)) (Fnet_of : Fn Pg w K mg base "net_of" 2 1 preNetOf) : Fn Pg w K mg base "least_net" 2 20 (preLeast cK) := by
  refine fn_ok (k := 19) (ps := ["wide", "deep"]) F scLeast hb hm (fun ds r ⟨_, _, h, _⟩ => by rw [h]; rfl) (by decide) fun cdv A outer s H E C ds r h => ?_
  obtain ⟨wd, dp, rfl, h⟩ := h
  show JB _ _ _ ⟨[.d (.int wd), .d (.int dp), .u, .u, .u], []⟩ _
  refine jb_cons (js_if (jt_w (jw_or (jt_not (jt_chain C je_int (je_var 0) (by walk_at "c") (je_globI mMOST_WIDE_least) (by walk_at "c"))) (jw_or1 (jt_cmp C (je_var 1) je_int (by walk_at "c"))))) (fun hb => ?_) (fun hb => ?_))
  · refine jb_cons (js_raise C xBadKind ?_)
    rcases h with ⟨_, h⟩ | ⟨w, d, h1, h2, rfl, rfl, _⟩
    · exact h
    · exfalso
      have e1 : (1 : Int) ≤ (w : Int) := by omega
      have e2 : (w : Int) ≤ 6 := by omega
      have e3 : ¬ (d : Int) < 0 := by omega
      simp [e1, e2, e3] at hb
  rcases h with ⟨h, _⟩ | ⟨w, d, h1, h2, rfl, rfl, h⟩
  · exfalso
    rcases h with h | h
    · have e : (decide (1 ≤ wd) && decide (wd ≤ 6)) = false := by
        rw [Bool.and_eq_false_iff, decide_eq_false_iff_not, decide_eq_false_iff_not]
        omega
      rw [e] at hb
      simp at hb
    · simp [h] at hb
  refine jb_nil ?_
  refine jb_cons (js_if (jt_cmp C (je_call C Fleast_depth (by decide) (jd_cons (je_var 0) jd_nil) (.inl ⟨w, h1, by omega, rfl, rfl⟩)) (je_var 1) .gt) (fun hb2 => ?_) (fun hb2 => ?_))
  · have hb2 := of_decide_eq_true hb2
    refine jb_cons (js_ret je_non ?_)
    rcases h with ⟨_, h⟩ | ⟨h, _⟩
    · exact h
    · exfalso; omega
  have hb2 := of_decide_eq_false hb2
  refine jb_nil ?_
  rcases h with ⟨h, _⟩ | ⟨_, n, hn, rfl⟩
  · exfalso; omega
  refine jb_cons (js_newD 2 C ?_)
  refine jb_cons (js_fold (List.range (w - 1)) (fun z (i : Nat) => kPut z [0, ((1 + i : Nat) : Int)] (d : Int)) [] (fun z => ⟨[.d (.int w), .d (.int d), .c 0, .u, .u], [.dic (cDc z)]⟩) (fun i z => z.length ≤ i) (enc := fun i : Nat => D.int ((1 + i : Nat) : Int)) C (ji_range2 (lo := 1) T.range je_int (je_var 0) (by omega)) (Nat.zero_le _) ?_ ?_)
  · intro i j z ha _ hq
    have hi : i < w := by
      obtain ⟨h1, _⟩ := List.getElem?_eq_some_iff.mp ha
      rw [List.length_range] at h1
      omega
    refine jg_name 3 C.nd ?_
    refine jb_cons (js_dputC (ns := [0, ((1 + j : Nat) : Int)]) 2 0 z C (je_var 1) (jd_cons je_int (jd_cons (je_var 3) jd_nil)) (by rw [sizeLine_eq]; omega) ?_)
    have := kPut_len z [0, ((1 + j : Nat) : Int)] (d : Int)
    exact jb_fin (t := ⟨[.d (.int w), .d (.int d), .c 0, .u, .u], [.dic (cDc _)]⟩) ⟨rfl, by omega⟩
  intro _
  show JB _ _ _ ⟨[.d (.int w), .d (.int d), .c 0, .u, .u], [.dic (cDc (want0 w d))]⟩ _
  refine jb_lockD 2 0 (want0 w d) ?_
  unfold leastF at hn
  cases hg : goF 16 ((w : Int) * w, none) (want0 w d) [] with
  | none => rw [hg] at hn; cases hn
  | some st =>
    obtain ⟨m, b⟩ := st
    cases b with
    | none => rw [hg] at hn; cases hn
    | some cuts =>
      rw [hg] at hn
      dsimp only at hn
      split at hn
      rotate_left
      · cases hn
      rename_i hk
      refine jb_cons (js_makeS 4 C MS (by decide) (je_bin (je_var 0) (je_var 0) (.mulI ?hmul)) ?_)
      case hmul => exact .inr ⟨by omega, by omega⟩
      refine jb_cons (js_expr (je_meth 4 C hM.cl Fgo (Nat.le_refl _) (ja_val (je_var 2) (ja_val je_dct0 ja_nil)) ⟨((w : Int) * w, none), (m, some cuts), want0 w d, [], want0_KD h2, KD.nil, hg, rfl, rfl, rfl, rfl⟩) ?_)
      exact jb_cons (js_ret (je_call C Fnet_of (by decide) (jd_cons (je_var 0) (jd_cons (je_fld 4 hM.cl hM.n_best) jd_nil)) ⟨w, cuts, n, h2, ⟨hk.1, hk.2⟩, hn, rfl, rfl⟩) rfl)
end
end Wk

namespace Sm
open PySem L2 DL
theorem inj_eI2 : Inj eI2 := fun x y => by
  unfold eI2
  rw [eqv_tups, eqvs, eqvs, eqvs, Bool.and_true]
  obtain ⟨a, b⟩ := x
  obtain ⟨c, d⟩ := y
  show (D.eqv (.int a) (.int c) && D.eqv (.int b) (.int d)) = _
  rw [eqv_int, eqv_int]
  by_cases h : a = c
  · by_cases h2 : b = d <;> simp [h, h2]
  · simp [h]
theorem sh_eI2 (n : Nat) (p : Int × Int) : Sh (n + 1) (eI2 p) := show ∀ x ∈ _, Sh n x from sh_cons (sh_int _ _) (sh_cons (sh_int _ _) sh_nil)
theorem foldl_min_le : ∀ (xs : List Int) (x : Int), xs.foldl min x ≤ x ∧ (∀ y ∈ xs, xs.foldl min x ≤ y) ∧ (xs.foldl min x = x ∨ xs.foldl min x ∈ xs)
  | [], x => ⟨Int.le_refl _, (fun _ h => nomatch h), .inl rfl⟩
  | z :: xs, x => by
    rw [List.foldl_cons]
    obtain ⟨h1, h2, h3⟩ := foldl_min_le xs (min x z)
    refine ⟨Int.le_trans h1 (by omega), fun y hy => ?_, ?_⟩
    · rcases List.mem_cons.mp hy with rfl | hy
      · exact Int.le_trans h1 (by omega)
      · exact h2 y hy
    · rcases h3 with h3 | h3
      · by_cases e : x ≤ z
        · left; rw [h3]; omega
        · right; rw [h3]; exact List.mem_cons.mpr (.inl (by omega))
      · exact .inr (List.mem_cons_of_mem _ h3)
theorem foldl_max_le : ∀ (xs : List Int) (x : Int), x ≤ xs.foldl max x ∧ (∀ y ∈ xs, y ≤ xs.foldl max x) ∧ (xs.foldl max x = x ∨ xs.foldl max x ∈ xs)
  | [], x => ⟨Int.le_refl _, (fun _ h => nomatch h), .inl rfl⟩
  | z :: xs, x => by
    rw [List.foldl_cons]
    obtain ⟨h1, h2, h3⟩ := foldl_max_le xs (max x z)
    refine ⟨Int.le_trans (by omega) h1, fun y hy => ?_, ?_⟩
    · rcases List.mem_cons.mp hy with rfl | hy
      · exact Int.le_trans (by omega) h1
      · exact h2 y hy
    · rcases h3 with h3 | h3
      · by_cases e : z ≤ x
        · left; rw [h3]; omega
        · right; rw [h3]; exact List.mem_cons.mpr (.inl (by omega))
      · exact .inr (List.mem_cons_of_mem _ h3)
theorem minI_ok : ∀ {l : List Int}, l ≠ [] → minI l ∈ l ∧ ∀ y ∈ l, minI l ≤ y
  | [], h => absurd rfl h
  | x :: xs, _ => by
    obtain ⟨h1, h2, h3⟩ := foldl_min_le xs x
    exact ⟨h3.elim (fun e => List.mem_cons.mpr (.inl e)) (List.mem_cons_of_mem _), fun y hy => (List.mem_cons.mp hy).elim (fun e => e ▸ h1) (h2 y)⟩
theorem maxI_ok : ∀ {l : List Int}, l ≠ [] → maxI l ∈ l ∧ ∀ y ∈ l, y ≤ maxI l
  | [], h => absurd rfl h
  | x :: xs, _ => by
    obtain ⟨h1, h2, h3⟩ := foldl_max_le xs x
    exact ⟨h3.elim (fun e => List.mem_cons.mpr (.inl e)) (List.mem_cons_of_mem _), fun y hy => (List.mem_cons.mp hy).elim (fun e => e ▸ h1) (h2 y)⟩
theorem deepS_ex {rec : Int → Int → Dc → Option (Int × Dc)} {a b : Nat} {st t : DeT} {i : Nat} (h : deepS rec a b st i = some t) : ∃ v1 f1 v2 f2, rec a ((a + i : Nat) : Int) st.2 = some (v1, f1) ∧ rec ((a + i + 1 : Nat) : Int) b f1 = some (v2, f2) ∧ t = (st.1 ++ [1 + max v1 v2], f2) := by
  unfold deepS at h
  cases h1 : rec a ((a + i : Nat) : Int) st.2 with
  | none => rw [h1] at h; cases h
  | some r =>
    obtain ⟨v1, f1⟩ := r
    rw [h1] at h
    dsimp only at h
    cases h2 : rec (((a + i : Nat) : Int) + 1) b f1 with
    | none => rw [h2] at h; cases h
    | some r =>
      obtain ⟨v2, f2⟩ := r
      rw [h2] at h
      cases h
      exact ⟨v1, f1, v2, f2, rfl, h2, rfl⟩
theorem deepF_KD (so : List (Int × Int)) : ∀ (n a b : Nat) (f : Dc) (v : Int) (g : Dc), a ≤ b → b ≤ 5 → KD f → deepF so n a b f = some (v, g) → KD g := by
  intro n
  induction n with
  | zero => intro a b f v g _ _ _ h; cases h
  | succ n ih =>
    intro a b f v g h1 h2 hf h
    rw [deepF] at h
    split at h
    · cases h; exact hf
    split at h
    · cases h; exact hf
    cases hk : kGet f [(a : Int), (b : Int)] with
    | some x => rw [hk] at h; cases h; exact hf
    | none =>
      rw [hk] at h
      dsimp only at h
      rw [Int.toNat_natCast, Int.toNat_natCast] at h
      cases hl : fldM (deepS (deepF so n) a b) (List.range (b - a)) ([], f) with
      | none => rw [hl] at h; cases h
      | some st =>
        rw [hl] at h
        cases h
        have hs : KD st.2 := fldM_inv (fun s : DeT => KD s.2) (fun s i t hi hs e => by
          have hi := List.mem_range.mp hi
          obtain ⟨v1, f1, v2, f2, e1, e2, rfl⟩ := deepS_ex e
          exact ih _ _ _ _ _ (by omega) h2 (ih _ _ _ _ _ (by omega) (by omega) hs e1) e2) hf hl
        exact hs.put (okP_mk h1 h2) _
theorem every_len : ∀ w < 7, (everyF w).length ≤ 10 := by decide +kernel
theorem valS_all {so : List (Int × Int)} : ∀ {l : List Nat} {st r : DeT}, fldM (valS so) l st = some r → r.1.map D.int = st.1.map D.int ++ DL.foldO (fun s i => (valS so s i).getD s) (fun s (i : Nat) => match deepF so 7 0 (i : Int) s.2 with
    | some r => .int r.1
    | none => .non) st l
  | [], st, r, h => by cases h; rw [DL.foldO, List.append_nil]
  | i :: l, st, r, h => by
    rw [fldM] at h
    cases e : valS so st i with
    | none => rw [e] at h; cases h
    | some t =>
      rw [e] at h
      have ih := valS_all h
      rw [ih, DL.foldO, e]
      unfold valS at e
      cases e2 : deepF so 7 0 (i : Int) st.2 with
      | none => rw [e2] at e; cases e
      | some r =>
        rw [e2] at e
        cases e
        show List.map D.int (st.1 ++ [r.1]) ++ _ = _
        rw [List.map_append, List.append_assoc]
        rfl
end Sm

namespace Wk
open PySem PySem.Spec PyProof.Rows L2 DL Sm
section
variable {Pg : Program} {w : World} {K : PySem.W.Frag} {mg : Str → Option Value} {base : Heap}
abbrev sDeep : Stmt := topS 32
theorem scDeep : FnScope ["_law_first", "_law_last", "_law_some", "_law_found", "_law_parts", "_law_cut"] ["_law_first", "_law_last", "_law_some", "_law_found"] (defScope sDeep) := ⟨rfl, rfl, rfl, by decide +kernel, rfl, by decide +kernel, by decide +kernel⟩
def preDp (n : Nat) : List Sl → List Cl → Res → List Cl → Prop := fun sls cl r cl' => ∃ (so : List (Int × Int)) (a b : Nat) (f g : Dc) (v : Int), a ≤ b ∧ b ≤ 5 ∧ KD f ∧ deepF so n a b f = some (v, g) ∧ sls = [.d (.int (a : Nat)), .d (.int (b : Nat)), .d (.lst (so.map eI2)), .c 0] ∧ cl = [.dic (cDc f)] ∧ r = .ok (.int v) ∧ cl' = [.dic (cDc g)]
theorem fn_deep {f : Addr} {fd : FuncData} (F : Fun K "_law_deep" "_law_deep" sDeep f fd) (hb : Binds K fd ["_law_first", "_law_last", "_law_some", "_law_found"] []) (hm : mg "_law_deep" = some (.ref f)) (T : Bt mg) : ∀ n, FnC Pg w K mg base "_law_deep" 4 1 (n + 1) (preDp n) := by
  intro n
  induction n with
  | zero =>
    refine fn_okC (k := 0) (ps := ["_law_first", "_law_last", "_law_some", "_law_found"]) F scDeep hb hm (fun sls cl r cl' ⟨so, a, b, f, g, v, _, _, _, _, h, _⟩ => by rw [h]; rfl) (by decide) fun cdv A outer s H E C sls cl r cl' _ h => ?_
    obtain ⟨so, a, b, f, g, v, _, _, _, h, _⟩ := h
    cases h
  | succ n ih =>
    refine fn_okC (k := n + 1) (ps := ["_law_first", "_law_last", "_law_some", "_law_found"]) F scDeep hb hm (fun sls cl r cl' ⟨so, a, b, f, g, v, _, _, _, _, h, _⟩ => by rw [h]; rfl) (by decide) fun cdv A outer s H E C sls cl r cl' _ h => ?_
    obtain ⟨so, a, b, f, g, v, h1, h2, hf, h, rfl, rfl, rfl, rfl⟩ := h
    rw [deepF] at h
    show JB _ _ _ ⟨[.d (.int (a : Nat)), .d (.int (b : Nat)), .d (.lst (so.map eI2)), .c 0, .u, .u], [.dic (cDc f)]⟩ _
    refine jb_cons (js_if (jt_cmp C (je_var 0) (je_var 1) (by walk_at "c")) (fun hb => ?_) (fun hb => ?_))
    · have hb := of_decide_eq_true hb
      rw [if_pos hb] at h
      cases h
      exact jb_cons (js_ret je_int ⟨rfl, rfl⟩)
    have hb := of_decide_eq_false hb
    rw [if_neg hb] at h
    refine jb_nil ?_
    refine jb_cons (js_if (jt_w (jw_and (jt_cmp C (je_var 0) je_int .gt) (jw_and1 (jt_cmp C (je_as (je_tup (jd_cons (je_var 0) (jd_cons (je_var 1) jd_nil))) (show _ = eI2 ((a : Int), (b : Int)) from rfl)) (je_var 2) (.ninL 1 (by decide) (sh_eI2 0 _) (fun d hd => by obtain ⟨p, _, rfl⟩ := List.mem_map.mp hd; exact sh_eI2 0 p)))))) (fun hb2 => ?_) (fun hb2 => ?_))
    · rw [inD_map inj_eI2, Bool.and_eq_true] at hb2
      obtain ⟨b1, b2⟩ := hb2
      have b1 := of_decide_eq_true b1
      have b3 : ((a : Int), (b : Int)) ∉ so := by simpa using b2
      rw [if_pos ⟨b1, b3⟩] at h
      cases h
      exact jb_cons (js_ret je_int ⟨rfl, rfl⟩)
    have hn : ¬ (0 < (a : Int) ∧ ((a : Int), (b : Int)) ∉ so) := fun ⟨z1, z2⟩ => by
      have z3 : 0 < a := by omega
      rw [inD_map inj_eI2] at hb2
      simp [z1, z2, z3] at hb2
    rw [if_neg hn] at h
    refine jb_nil ?_
    refine jb_cut (fun s' => s' = ⟨[.d (.int (a : Nat)), .d (.int (b : Nat)), .d (.lst (so.map eI2)), .c 0, .u, .u], [.dic (cDc g)]⟩ ∧ kGet g [(a : Int), (b : Int)] = some v) (js_if (jt_dninC (ns := [(a : Int), (b : Int)]) 3 f C (jd_cons (je_var 0) (jd_cons (je_var 1) jd_nil))) (fun hb3 => ?_) (fun hb3 => ?_)) ?_
    · have hk : kGet f [(a : Int), (b : Int)] = none := by
        cases q : kGet f [(a : Int), (b : Int)] with
        | none => rfl
        | some x => rw [q] at hb3; cases hb3
      rw [hk] at h
      dsimp only at h
      rw [Int.toNat_natCast, Int.toNat_natCast] at h
      cases hl : fldM (deepS (deepF so n) a b) (List.range (b - a)) ([], f) with
      | none => rw [hl] at h; cases h
      | some st =>
        rw [hl] at h
        cases h
        obtain ⟨efin, hat⟩ := fldM_at hl
        refine jb_drop ?_
        refine jb_cons (js_new 4 C (jf_lst jd_nil) ?_)
        refine jb_cons (js_fold (List.range (b - a)) (fun s i => (deepS (deepF so n) a b s i).getD s) ([], f) (fun s => ⟨[.d (.int (a : Nat)), .d (.int (b : Nat)), .d (.lst (so.map eI2)), .c 0, .c 1, .u], [.dic (cDc s.2), .lst (s.1.map .int)]⟩) (fun i s => s.1.length = i ∧ KD s.2) (enc := fun i : Nat => D.int ((a + i : Nat) : Int)) C (ji_range2 T.range (je_var 0) (je_var 1) (by omega)) ⟨rfl, hf⟩ ?_ ?_)
        · intro i j s0 ha hs0 hq
          obtain ⟨q1, q2⟩ := hq
          obtain ⟨t, ht⟩ := hat i j ha
          rw [← hs0] at ht
          have hj : j < b - a := List.mem_range.mp (List.mem_of_getElem? ha)
          have hi : i < b - a := by
            obtain ⟨z, _⟩ := List.getElem?_eq_some_iff.mp ha
            rw [List.length_range] at z
            exact z
          have hfin : (deepS (deepF so n) a b s0 j).getD s0 = t := by rw [ht]; rfl
          rw [hfin]
          obtain ⟨v1, f1, v2, f2, e1, e2, rfl⟩ := deepS_ex ht
          have k1 := deepF_KD so n a (a + j) s0.2 v1 f1 (by omega) (by omega) q2 e1
          have k2 := deepF_KD so n (a + j + 1) b f1 v2 f2 (by omega) h2 k1 e2
          refine jg_name 5 C.nd ?_
          refine jb_cons (js_app (xs := s0.1.map .int) 4 1 (je_bin je_int (je_max2 C T.max (je_w (je_callC C ih (Nat.le_refl _) (ja_val (je_var 0) (ja_val (je_var 5) (ja_val (je_var 2) (ja_cell 3 ja_nil)))) ⟨so, a, a + j, s0.2, f1, v1, by omega, by omega, q2, e1, rfl, rfl, rfl, rfl⟩)) (je_w (je_callC C ih (Nat.le_refl _) (ja_val (je_as (je_bin (je_var 5) je_int .addI) (show _ = D.int ((a + j + 1 : Nat) : Int) from rfl)) (ja_val (je_var 1) (ja_val (je_var 2) (ja_cell 3 ja_nil)))) ⟨so, a + j + 1, b, f1, f2, v2, by omega, h2, k1, e2, rfl, rfl, rfl, rfl⟩))) .addI) (by rw [List.length_map, sizeLine_eq]; omega) ?_)
          refine jb_fin (t := ⟨[.d (.int (a : Nat)), .d (.int (b : Nat)), .d (.lst (so.map eI2)), .c 0, .c 1, .u], [.dic (cDc f2), .lst ((s0.1 ++ [1 + max v1 v2]).map .int)]⟩) ⟨rfl, by rw [List.length_append, q1]; rfl, k2⟩ (by rw [List.map_append]; rfl)
        intro hq
        rw [← efin] at hq ⊢
        obtain ⟨q1, q2⟩ := hq
        rw [List.length_range] at q1
        have hne : st.1 ≠ [] := fun z => by rw [z] at q1; simp at q1; omega
        obtain ⟨m1, m2⟩ := minI_ok hne
        have hl2 := q2.le
        refine jb_cons (js_dputC (ns := [(a : Int), (b : Int)]) 3 0 st.2 C (je_view (je_minL C T.min (je_var 4) m1 m2)) (jd_cons (je_var 0) (jd_cons (je_var 1) jd_nil)) (by rw [sizeLine_eq]; omega) ?_)
        exact jb_finD ⟨[.d (.int (a : Nat)), .d (.int (b : Nat)), .d (.lst (so.map eI2)), .c 0, .u, .u], [.dic (cDc (kPut st.2 [(a : Int), (b : Int)] (minI st.1)))]⟩ ⟨rfl, kGet_put⟩
    · cases q : kGet f [(a : Int), (b : Int)] with
      | none => rw [q] at hb3; cases hb3
      | some x =>
        rw [q] at h
        cases h
        exact jb_nil ⟨rfl, q⟩
    · rintro s' ⟨rfl, hk⟩
      exact jb_cons (js_ret (je_dgetC (ns := [(a : Int), (b : Int)]) 3 g C (jd_cons (je_var 0) (jd_cons (je_var 1) jd_nil)) hk) ⟨rfl, rfl⟩)
def eNo : Option Nat → D
  | none => .non
  | some k => eN k
def eSet (z : List (Int × Int)) : D := .lst (z.map eI2)
abbrev sFewest : Stmt := topS 33
theorem scFewest : FnScope ["_law_wide", "_law_deep_here", "_law_every", "_law_first", "_law_last", "_law_best", "_law_sets", "_law_stretch", "_law_some", "_law_found"] ["_law_wide", "_law_deep_here"] (defScope sFewest) := ⟨rfl, rfl, rfl, by decide +kernel, rfl, by decide +kernel, by decide +kernel⟩
def preFewest : List D → Res → Prop := fun ds r => ∃ (w d : Nat) (best : Option Nat), 1 ≤ w ∧ w ≤ 6 ∧ fewF w d = some best ∧ ds = [.int (w : Nat), .int (d : Nat)] ∧ r = .ok (eNo best)
theorem fn_fewest {f : Addr} {fd : FuncData} (F : Fun K "_law_fewest" "_law_fewest" sFewest f fd) (hb : Binds K fd ["_law_wide", "_law_deep_here"] []) (hm : mg "_law_fewest" = some (.ref f)) (T : Bt mg) (F_law_deep : ∀ n, FnC Pg w K mg base "_law_deep" 4 1 (n + 1) (preDp n)) : Fn Pg w K mg base "_law_fewest" 2 9 preFewest := by
  refine fn_ok (k := 8) (ps := ["_law_wide", "_law_deep_here"]) F scFewest hb hm (fun ds r ⟨w, d, _, _, _, _, h, _⟩ => by rw [h]; rfl) (by decide) fun cdv A outer s H E C ds r h => ?_
  obtain ⟨w, d, best, w1, w2, hF, rfl, rfl⟩ := h
  have hev := every_len w (by omega)
  show JB _ _ _ ⟨[.d (.int (w : Nat)), .d (.int (d : Nat)), .u, .u, .u, .u, .u, .u, .u, .u], []⟩ _
  refine jb_cons (js_set 2 C (je_f (jf_lst jd_nil)) ?_)
  refine jb_cons (js_fold (List.range (w - 1)) (fun l (i : Nat) => l ++ (List.range (w - (1 + i + 1))).map fun j : Nat => (((1 + i : Nat) : Int), ((1 + i + 1 + j : Nat) : Int))) [] (fun l => ⟨[.d (.int (w : Nat)), .d (.int (d : Nat)), .d (.lst (l.map eI2)), .u, .u, .u, .u, .u, .u, .u], []⟩) (fun i l => l.length ≤ 6 * i) (enc := fun i : Nat => D.int ((1 + i : Nat) : Int)) C (ji_range2 (lo := 1) T.range je_int (je_var 0) (by omega)) (Nat.zero_le _) ?_ ?_)
  · intro i j l ha _ hq
    have hi : i < w := by
      obtain ⟨z, _⟩ := List.getElem?_eq_some_iff.mp ha
      rw [List.length_range] at z
      omega
    have hj : j < w - 1 := List.mem_range.mp (List.mem_of_getElem? ha)
    refine jg_name 3 C.nd ?_
    refine jb_cons (js_set (d := .lst ((l ++ (List.range (w - (1 + j + 1))).map fun q : Nat => (((1 + j : Nat) : Int), ((1 + j + 1 + q : Nat) : Int))).map eI2)) 2 C (je_as (je_f (jf_cat (je_var 2) (je_f (jf_lc C (lc_map 4 (List.range (w - (1 + j + 1))) (enc := fun q : Nat => D.int ((1 + j + 1 + q : Nat) : Int)) (f := fun q => eI2 (((1 + j : Nat) : Int), ((1 + j + 1 + q : Nat) : Int))) C (ji_range2 (lo := 1 + j + 1) T.range (je_bin (je_var 3) je_int .addI) (je_var 0) (by omega)) (fun q hq _ _ _ _ _ C => je_tup (jd_cons (je_var 3) (jd_cons (je_var 4) jd_nil))) (by rw [List.length_range, sizeLine_eq]; omega)))) (by rw [List.length_map, List.length_map, List.length_range, sizeLine_eq]; omega))) (by rw [List.map_append, List.map_map]; rfl)) ?_)
    refine jb_fin (t := ⟨[.d (.int (w : Nat)), .d (.int (d : Nat)), .d (.lst ((l ++ (List.range (w - (1 + j + 1))).map fun q : Nat => (((1 + j : Nat) : Int), ((1 + j + 1 + q : Nat) : Int))).map eI2)), .u, .u, .u, .u, .u, .u, .u], []⟩) ⟨rfl, ?_⟩
    rw [List.length_append, List.length_map, List.length_range]
    omega
  intro _
  show JB _ _ _ ⟨[.d (.int (w : Nat)), .d (.int (d : Nat)), .d (.lst ((everyF w).map eI2)), .u, .u, .u, .u, .u, .u, .u], []⟩ _
  refine jb_cons (js_set 5 C je_non ?_)
  refine jb_cons (js_set (d := .lst (([[]] : List (List (Int × Int))).map eSet)) 6 C (je_as (je_f (jf_lst (jd_cons (je_f (jf_lst jd_nil)) jd_nil))) rfl) ?_)
  refine jb_cons (js_fold (everyF w) (fun sets p => sets ++ sets.map fun z => z ++ [p]) [[]] (fun sets => ⟨[.d (.int (w : Nat)), .d (.int (d : Nat)), .d (.lst ((everyF w).map eI2)), .u, .u, .d .non, .d (.lst (sets.map eSet)), .u, .u, .u], []⟩) (fun i sets => sets.length = 2 ^ i ∧ ∀ z ∈ sets, z.length ≤ i) (enc := eI2) C (ji_list (je_var 2)) ⟨rfl, fun z hz => by rw [List.mem_singleton.mp hz]; exact Nat.le_refl _⟩ ?_ ?_)
  · intro i p sets ha _ hq
    obtain ⟨q1, q2⟩ := hq
    have hi : i < (everyF w).length := (List.getElem?_eq_some_iff.mp ha).1
    have h2i : 2 ^ i ≤ 2 ^ 10 := Nat.pow_le_pow_right (by decide) (by omega)
    refine jg_name 7 C.nd ?_
    refine jb_cons (js_set (d := .lst ((sets ++ sets.map fun z => z ++ [p]).map eSet)) 6 C (je_as (je_f (jf_cat (je_var 6) (je_f (jf_lc C (lc_map 8 sets (enc := eSet) (f := fun z => eSet (z ++ [p])) C (ji_list (je_var 6)) (fun z hz _ _ _ _ _ C => je_as (je_f (jf_cat (je_var 8) (je_f (jf_lst (jd_cons (je_var 7) jd_nil))) (by have := q2 z hz; rw [List.length_map, sizeLine_eq]; show _ + 1 ≤ _; omega))) (by unfold eSet; rw [List.map_append]; rfl)) (by rw [q1, sizeLine_eq]; omega)))) (by rw [List.length_map, List.length_map, q1, sizeLine_eq]; omega))) (by rw [List.map_append, List.map_map]; rfl)) ?_)
    refine jb_fin (t := ⟨[.d (.int (w : Nat)), .d (.int (d : Nat)), .d (.lst ((everyF w).map eI2)), .u, .u, .d .non, .d (.lst ((sets ++ sets.map fun z => z ++ [p]).map eSet)), .u, .u, .u], []⟩) ⟨rfl, by rw [List.length_append, List.length_map, q1]; omega, fun z hz => ?_⟩
    rcases List.mem_append.mp hz with hz | hz
    · have := q2 z hz; omega
    · obtain ⟨y, hy, rfl⟩ := List.mem_map.mp hz
      have := q2 y hy
      rw [List.length_append]
      show _ + 1 ≤ _
      omega
  intro hq
  have q2 := hq.2
  show JB _ _ _ ⟨[.d (.int (w : Nat)), .d (.int (d : Nat)), .d (.lst ((everyF w).map eI2)), .u, .u, .d .non, .d (.lst ((setsF (everyF w)).map eSet)), .u, .u, .u], []⟩ _
  have q3 : ∀ z ∈ setsF (everyF w), z.length ≤ 10 := fun z hz => Nat.le_trans (q2 z hz) hev
  unfold fewF at hF
  obtain ⟨efin, hat⟩ := fldM_at hF
  refine jb_cons (js_fold (setsF (everyF w)) (fun b z => (bestS w d b z).getD b) none (fun b => ⟨[.d (.int (w : Nat)), .d (.int (d : Nat)), .d (.lst ((everyF w).map eI2)), .u, .u, .d (eNo b), .d (.lst ((setsF (everyF w)).map eSet)), .u, .u, .u], []⟩) (fun _ _ => True) (enc := eSet) C (ji_list (je_var 6)) True.intro ?_ ?_)
  · intro i z b ha hb0 _
    obtain ⟨t, ht⟩ := hat i z ha
    rw [← hb0] at ht
    have hfin : (bestS w d b z).getD b = t := by rw [ht]; rfl
    rw [hfin]
    have hz := q3 z (List.mem_of_getElem? ha)
    refine jg_name 8 C.nd ?_
    refine jb_drop ?_
    refine jb_cons (js_if (β := decide (b = none ∨ ∃ k ∈ b, z.length < k)) ?ht (fun hb => ?_) (fun hb => ?_))
    case ht =>
      cases b with
      | none => exact jt_as (jt_w (jw_orC (β2 := false) (jt_cmp C (je_var 5) je_non .isN) (fun z => Bool.noConfusion z))) (by rw [decide_eq_true (.inl rfl)]; rfl)
      | some k =>
        refine jt_as (jt_w (jw_or (jt_cmp C (je_var 5) je_non .isN) (jw_or1 (jt_cmp C (je_len T.len (je_var 8) .lst) (je_var 5) .lt)))) ?_
        show (false || decide (_)) = _
        rw [Bool.false_or, List.length_map]
        refine decide_eq_decide.mpr ⟨fun h => .inr ⟨k, rfl, by omega⟩, fun h => ?_⟩
        rcases h with h | ⟨k', h, h2⟩
        · cases h
        · cases h; omega
    · have hb := of_decide_eq_true hb
      unfold bestS at ht
      rw [if_pos hb] at ht
      cases hv : fldM (valS z) (List.range w) ([], []) with
      | none => rw [hv] at ht; cases ht
      | some st =>
        rw [hv] at ht
        have ht : (if maxI st.1 ≤ d then some z.length else b) = t := Option.some.inj ht
        obtain ⟨ef2, hat2⟩ := fldM_at hv
        have hall := valS_all hv
        rw [List.map_nil, List.nil_append] at hall
        have hvl : st.1.length = w := by
          have := congrArg List.length hall
          rw [List.length_map, DL.foldO_len, List.length_range] at this
          exact this
        obtain ⟨m1, m2⟩ := maxI_ok (l := st.1) (fun e => by rw [e] at hvl; simp at hvl; omega)
        refine jb_cons (js_newD 9 C ?_)
        refine jb_cons (js_ifc (jtc_cmp C (je_maxL C T.max (je_f (jf_lc C (lc_as (lc_fold 4 (List.range w) (enc := fun i : Nat => D.int (i : Nat)) (([], []) : DeT) (fun s i => (valS z s i).getD s) (fun s (i : Nat) => match deepF z 7 0 (i : Int) s.2 with
          | some r => .int r.1
          | none => .non) (fun s => [.dic (cDc s.2)]) (fun _ s => KD s.2) C (ji_range1 T.range (je_var 0) (by omega)) rfl KD.nil (fun j x s hx hs hq => ?stp) (by rw [List.length_range, sizeLine_eq]; omega)) hall.symm))) m1 m2) (je_var 1) .le) (fun hb2 => ?_) (fun hb2 => ?_))
        case stp =>
          obtain ⟨t2, ht2⟩ := hat2 j x hx
          rw [← hs] at ht2
          have hx2 : x < w := List.mem_range.mp (List.mem_of_getElem? hx)
          have e5 : (valS z s x).getD s = t2 := by rw [ht2]; rfl
          rw [e5]
          unfold valS at ht2
          cases e6 : deepF z 7 0 (x : Int) s.2 with
          | none => rw [e6] at ht2; cases ht2
          | some r =>
            obtain ⟨v, g⟩ := r
            rw [e6] at ht2
            cases ht2
            refine ⟨deepF_KD z 7 0 x s.2 v g (Nat.zero_le _) (by omega) hq e6, fun _ _ _ _ _ C => ?_⟩
            exact je_callC C (F_law_deep 7) (Nat.le_refl _) (ja_val je_int (ja_val (je_var 4) (ja_val (je_var 8) (ja_cell 9 ja_nil)))) ⟨z, 0, x, s.2, g, v, Nat.zero_le _, by omega, hq, e6, rfl, rfl, rfl, rfl⟩
        · have hb2 := of_decide_eq_true hb2
          rw [if_pos hb2] at ht
          subst ht
          refine jb_cons (js_set (d := eNo (some z.length)) 5 C (je_as (je_len T.len (je_var 8) .lst) (by rw [List.length_map]; rfl)) ?_)
          exact jb_nil (jb_nil (jb_finD ⟨[.d (.int (w : Nat)), .d (.int (d : Nat)), .d (.lst ((everyF w).map eI2)), .u, .u, .d (eNo (some z.length)), .d (.lst ((setsF (everyF w)).map eSet)), .u, .u, .u], []⟩ ⟨rfl, True.intro⟩))
        · have hb2 := of_decide_eq_false hb2
          rw [if_neg hb2] at ht
          subst ht
          exact jb_nil (jb_nil (jb_finD ⟨[.d (.int (w : Nat)), .d (.int (d : Nat)), .d (.lst ((everyF w).map eI2)), .u, .u, .d (eNo b), .d (.lst ((setsF (everyF w)).map eSet)), .u, .u, .u], []⟩ ⟨rfl, True.intro⟩))
    · have hb := of_decide_eq_false hb
      unfold bestS at ht
      rw [if_neg hb] at ht
      cases ht
      exact jb_nil (jb_finD ⟨[.d (.int (w : Nat)), .d (.int (d : Nat)), .d (.lst ((everyF w).map eI2)), .u, .u, .d (eNo b), .d (.lst ((setsF (everyF w)).map eSet)), .u, .u, .u], []⟩ ⟨rfl, True.intro⟩)
  · intro _
    rw [← efin]
    exact jb_cons (js_ret (je_var 5) rfl)
end
end Wk

namespace DL
open PySem PySem.Spec PyProof.Rows L2
section
variable {X : Cx} {W : WX} {a b : Expr} {s : A} {β : Bool} {xs : List D} {p pos : Pos}
/-- isinstance(t, c), t a tuple -/
theorem je_isTup {cv : V} {u : Value} (hm : X.mg "isinstance" = none) (ha : JE X W a s (.ok (.tup xs)) s) (hc : PE X b (tC cv)) (kc : ClsV cv u) (h : PySem.W.kitOne X.K (.type "tuple") u = some β) (hg : Gl X "isinstance" := by rfl)
    (h1 : starEach (b :: []) X.env = (false, eval b X.env) :: starEach [] X.env := by rfl) (he : starEach (a :: [b]) X.env = (false, eval a X.env) :: starEach [b] X.env := by rfl) (hpl : (backTo pos (starEach [b] X.env)).any (·.1) = false := by rfl) :
    JE X W (.Call (.Name "isinstance" p) [a, b] [] pos) s (.ok (.bl β)) s :=
  je_of (pe_callB call_isi hg hm (by decide +kernel) (pa_cons pe_w (pa_cons hc pa_nil h1) he) (by decide) (by decide) he hpl) fun as B H σ ok Q q => Ok.one ha ok fun x B1 H1 e1 o1 r1 => by
    cases r1 with
    | @tup t _ _ sa _ =>
      have ty : TyX X.K H1 (.ref t) (.type "tuple") := by
        rcases same_t o1.sm sa with (z | ⟨o, z⟩) | ⟨o, its, n, z, c, _⟩
        · exact .base (.tup z)
        · exact .fTuple z
        · exact .kTuple z c
      exact ⟨_, _, _, _, _, rfl, kc, ty, h, q _ B1 H1 e1 o1 (.bl _)⟩
end
end DL

namespace Sm
open PySem L2 DL
theorem all_cases {w d : Nat} (h1 : 1 ≤ w) (h2 : w ≤ 6) (hd : d < 6) (h : leastD w ≤ d) : ∃ (n : Nt) (k : Nat), leastF w d = some n ∧ fewF w d = some (some k) ∧ n.good ∧ wrongN n "any" = none ∧ n.depth ≤ d ∧ n.steps.length = w - 1 + k := by
  have c : caseB w d = true := by
    match w, h1, h2 with
    | 1, _, _ => exact case_1 d hd h
    | 2, _, _ => exact case_2 d hd h
    | 3, _, _ => exact case_3 d hd h
    | 4, _, _ => exact case_4 d hd h
    | 5, _, _ => exact case_5 d hd h
    | 6, _, _ => exact case_6 d hd h
  unfold caseB at c
  cases e1 : leastF w d with
  | none => rw [e1] at c; cases c
  | some n =>
    cases e2 : fewF w d with
    | none => rw [e1, e2] at c; cases c
    | some b =>
      cases b with
      | none => rw [e1, e2] at c; cases c
      | some k =>
        rw [e1, e2] at c
        simp only [Bool.and_eq_true] at c
        obtain ⟨c1, _, c3, c4, c5⟩ := c
        exact ⟨n, k, rfl, rfl, goodB_ok c1, of_decide_eq_true c3, of_decide_eq_true c4, of_decide_eq_true c5⟩
def twoP (l : Nat) : Nat := [1, 2, 4, 8].getD l 0
theorem twoP_ok : ∀ w < 7, 1 ≤ w → leastD w < 4 ∧ w ≤ twoP (leastD w) ∧ (0 < leastD w → twoP (leastD w - 1) < w) := by decide +kernel
theorem twoP_D {l : Nat} (h : l < 4) : ([D.int 1, .int 2, .int 4, .int 8] : List D).getD l .non = .int (twoP l : Nat) := by
  match l, h with
  | 0, _ => rfl
  | 1, _ => rfl
  | 2, _ => rfl
  | 3, _ => rfl
end Sm
namespace Wk
open PySem PySem.Spec PyProof.Rows L2 DL Sm
section
variable {Pg : Program} {w : World} {K : PySem.W.Frag} {mg : Str → Option Value} {base : Heap}
abbrev sTold : Stmt := topS 34
theorem scTold : FnScope ["_law_wide", "_law_deep_here", "_law_kept", "_law_found", "e"] ["_law_wide", "_law_deep_here"] (defScope sTold) := ⟨rfl, rfl, rfl, by decide +kernel, rfl, by decide +kernel, by decide +kernel⟩
def preTold : List D → Res → Prop := fun ds r => ∃ (wd dp : Int), ds = [.int wd, .int dp] ∧ (((¬ (1 ≤ wd ∧ wd ≤ 6) ∨ dp < 0) ∧ r = .ok (.str "kind")) ∨ ∃ w d : Nat, 1 ≤ w ∧ w ≤ 6 ∧ wd = w ∧ dp = d ∧ ((d < leastD w ∧ r = .ok .non) ∨ (leastD w ≤ d ∧ ∃ n, leastF w d = some n ∧ r = .ok n.e)))
theorem fn_told {f : Addr} {fd : FuncData} (F : Fun K "_law_told" "_law_told" sTold f fd) (hb : Binds K fd ["_law_wide", "_law_deep_here"] []) (hm : mg "_law_told" = some (.ref f)) {cK : Addr} {cS : Addr} (RK : RefF K mg cK 0) (gS : mg "SumError" = some (.ref cS)) (hS : PySem.W.exmOne K (.ref cK) (.ref cS) = some true)
    (Fleast_net : Fn Pg w K mg base "least_net" 2 20 (preLeast cK)) (F_law_refusal : Fn Pg w K mg base "_law_refusal" 1 1 (preRefusal K mg)) : Fn Pg w K mg base "_law_told" 2 21 preTold := by
  refine fn_ok (k := 20) (ps := ["_law_wide", "_law_deep_here"]) F scTold hb hm (fun ds r ⟨_, _, h, _⟩ => by rw [h]; rfl) (by decide) fun cdv A outer s H E C ds r h => ?_
  have hSu : Names (cxOf (CX Pg w) Pg w K mg base ["_law_wide", "_law_deep_here", "_law_kept", "_law_found", "e"] "_law_told" (defScope sTold) f cdv A outer s H E) "SumError" (.ref cS) := ⟨rfl, by decide, .inl gS⟩
  obtain ⟨wd, dp, rfl, h⟩ := h
  show JB _ _ _ ⟨[.d (.int wd), .d (.int dp), .u, .u, .u], []⟩ _
  refine jb_cons (js_set 2 C je_non ?_)
  refine jb_cons (js_set 3 C je_non ?_)
  rcases h with ⟨hbad, rfl⟩ | ⟨w, d, w1, w2, rfl, rfl, h⟩
  · refine jb_cut (fun s' => s' = ⟨[.d (.int wd), .d (.int dp), .d (.exc cK), .d .non, .u], []⟩) (js_try 4 2 C hSu fun W pn xe C => ?_) ?_
    · exact jb_cons (js_setE 3 C (je_callE C Fleast_net (by decide) (jd_cons (je_var 0) (jd_cons (je_var 1) jd_nil)) ⟨wd, dp, rfl, .inl ⟨hbad, rfl⟩⟩) ⟨hS, rfl⟩)
    · rintro s' rfl
      exact jb_cons (js_ret (je_if (jt_cmp C (je_var 2) je_non (by walk_at "c")) (fun hc => Bool.noConfusion (show false = true from hc)) (fun hc => je_call C F_law_refusal (by decide) (jd_cons (je_var 2) jd_nil) ⟨cK, 0, RK, rfl, rfl⟩)) rfl)
  · rcases h with ⟨hd, rfl⟩ | ⟨hd, n, hn, rfl⟩
    · refine jb_cut (fun s' => s' = ⟨[.d (.int w), .d (.int d), .d .non, .d .non, .u], []⟩) (js_try 4 2 C hSu fun W pn xe C => ?_) ?_
      · exact jb_cons (js_set 3 C (je_call C Fleast_net (by decide) (jd_cons (je_var 0) (jd_cons (je_var 1) jd_nil)) ⟨w, d, rfl, .inr ⟨w, d, w1, w2, rfl, rfl, .inl ⟨hd, rfl⟩⟩⟩) (jb_nil rfl))
      · rintro s' rfl
        exact jb_cons (js_ret (je_if (jt_cmp C (je_var 2) je_non (by walk_at "c")) (fun hc => (je_var 3)) (fun hc => Bool.noConfusion (show true = false from hc))) rfl)
    · refine jb_cut (fun s' => s' = ⟨[.d (.int w), .d (.int d), .d .non, .d n.e, .u], []⟩) (js_try 4 2 C hSu fun W pn xe C => ?_) ?_
      · exact jb_cons (js_set 3 C (je_call C Fleast_net (by decide) (jd_cons (je_var 0) (jd_cons (je_var 1) jd_nil)) ⟨w, d, rfl, .inr ⟨w, d, w1, w2, rfl, rfl, .inr ⟨hd, n, hn, rfl⟩⟩⟩) (jb_nil rfl))
      · rintro s' rfl
        exact jb_cons (js_ret (je_if (jt_cmp C (je_var 2) je_non (by walk_at "c")) (fun hc => (je_var 3)) (fun hc => Bool.noConfusion (show true = false from hc))) rfl)
abbrev sDtold : Stmt := topS 35
theorem scDtold : FnScope ["_law_wide", "_law_kept", "_law_found", "e"] ["_law_wide"] (defScope sDtold) := ⟨rfl, rfl, rfl, by decide +kernel, rfl, by decide +kernel, by decide +kernel⟩
def preDtold : List D → Res → Prop := fun ds r => (∃ w : Nat, 1 ≤ w ∧ w ≤ 64 ∧ ds = [.int (w : Nat)] ∧ r = .ok (eN (leastD w))) ∨ ∃ w : Int, ¬ (1 ≤ w ∧ w ≤ 64) ∧ ds = [.int w] ∧ r = .ok (.str "kind")
theorem fn_dtold {f : Addr} {fd : FuncData} (F : Fun K "_law_depth_told" "_law_depth_told" sDtold f fd) (hb : Binds K fd ["_law_wide"] []) (hm : mg "_law_depth_told" = some (.ref f)) {cK : Addr} {cS : Addr} (RK : RefF K mg cK 0) (gS : mg "SumError" = some (.ref cS)) (hS : PySem.W.exmOne K (.ref cK) (.ref cS) = some true)
    (Fleast_depth : Fn Pg w K mg base "least_depth" 1 1 (preLeastD cK)) (F_law_refusal : Fn Pg w K mg base "_law_refusal" 1 1 (preRefusal K mg)) : Fn Pg w K mg base "_law_depth_told" 1 2 preDtold := by
  refine fn_ok (k := 1) (ps := ["_law_wide"]) F scDtold hb hm (fun ds r h => by rcases h with ⟨_, _, _, h, _⟩ | ⟨_, _, h, _⟩ <;> rw [h] <;> rfl) (by decide) fun cdv A outer s H E C ds r h => ?_
  have hSu : Names (cxOf (CX Pg w) Pg w K mg base ["_law_wide", "_law_kept", "_law_found", "e"] "_law_depth_told" (defScope sDtold) f cdv A outer s H E) "SumError" (.ref cS) := ⟨rfl, by decide, .inl gS⟩
  rcases h with ⟨w, w1, w2, rfl, rfl⟩ | ⟨w, hw, rfl, rfl⟩
  · show JB _ _ _ ⟨[.d (.int (w : Nat)), .u, .u, .u], []⟩ _
    refine jb_cons (js_set 1 C je_non ?_)
    refine jb_cons (js_set 2 C je_non ?_)
    refine jb_cut (fun s' => s' = ⟨[.d (.int w), .d .non, .d (eN (leastD w)), .u], []⟩) (js_try 3 1 C hSu fun W pn xe C => ?_) ?_
    · exact jb_cons (js_set 2 C (je_call C Fleast_depth (by decide) (jd_cons (je_var 0) jd_nil) (.inl ⟨w, w1, w2, rfl, rfl⟩)) (jb_nil rfl))
    · rintro s' rfl
      exact jb_cons (js_ret (je_if (jt_cmp C (je_var 1) je_non (by walk_at "c")) (fun hc => (je_var 2)) (fun hc => Bool.noConfusion (show true = false from hc))) rfl)
  · show JB _ _ _ ⟨[.d (.int w), .u, .u, .u], []⟩ _
    refine jb_cons (js_set 1 C je_non ?_)
    refine jb_cons (js_set 2 C je_non ?_)
    refine jb_cut (fun s' => s' = ⟨[.d (.int w), .d (.exc cK), .d .non, .u], []⟩) (js_try 3 1 C hSu fun W pn xe C => ?_) ?_
    · exact jb_cons (js_setE 2 C (je_callE C Fleast_depth (by decide) (jd_cons (je_var 0) jd_nil) (.inr ⟨w, hw, rfl, rfl⟩)) ⟨hS, rfl⟩)
    · rintro s' rfl
      exact jb_cons (js_ret (je_if (jt_cmp C (je_var 1) je_non (by walk_at "c")) (fun hc => Bool.noConfusion (show false = true from hc)) (fun hc => je_call C F_law_refusal (by decide) (jd_cons (je_var 1) jd_nil) ⟨cK, 0, RK, rfl, rfl⟩)) rfl)
abbrev sLaw : Stmt := topS 36
theorem scLaw : FnScope ["_law_script", "_law_wide", "_law_deep_here", "_law_found", "_law_least"] ["_law_script"] (defScope sLaw) := ⟨rfl, rfl, rfl, by decide +kernel, rfl, by decide +kernel, by decide +kernel⟩
def preLaw : List D → Res → Prop := fun ds r => ∃ ns : List Int, ds = [.scr ns] ∧ r = .ok (.bl true)
theorem fn_law {f : Addr} {fd : FuncData} (F : Fun K "law" "law" sLaw f fd) (hb : Binds K fd ["_law_script"] []) (hm : mg "law" = some (.ref f)) (T : Bt mg) {cN cK : Addr} (F_law_mix : Fn Pg w K mg base "_law_mix" 2 2 preMix) (F_law_told : Fn Pg w K mg base "_law_told" 2 21 preTold) (F_law_depth_told : Fn Pg w K mg base "_law_depth_told" 1 2 preDtold) (F_law_fewest : Fn Pg w K mg base "_law_fewest" 2 9 preFewest) (F_law_whole : Fn Pg w K mg base "_law_whole" 1 1 preWhole)
    (Fjudged : Fn Pg w K mg base "judged" 2 4 (preJudged cN cK)) (Fdepth : Fn Pg w K mg base "depth" 1 3 (preN cN fun n => eN n.depth)) (Fleast_depth : Fn Pg w K mg base "least_depth" 1 1 (preLeastD cK)) : FnOk Pg w K mg base (L2.CX Pg w) 25 f fd ["_law_script"] (spD K preLaw) := by
  refine fn_okX (k := 24) (ps := ["_law_script"]) F scLaw hb hm (fun ds r ⟨ns, h, _⟩ => by rw [h]; rfl) (by decide) fun cdv A outer s H E C ds r h => ?_
  obtain ⟨ns, rfl, rfl⟩ := h
  show JB _ _ _ ⟨[.d (.scr ns), .u, .u, .u, .u], []⟩ _
  have q5 : mixN ns 0 % 5 < 5 := Nat.mod_lt _ (by decide)
  refine jb_cons (js_set 1 C (je_as (je_bin je_int (je_bin (je_call C F_law_mix (by decide) (jd_cons (je_var 0) (jd_cons je_int jd_nil)) ⟨ns, 0, rfl, rfl⟩) je_int (by walk_at "b")) (by walk_at "b")) (show _ = D.int ((1 + mixN ns 0 % 5 : Nat) : Int) from rfl)) ?_)
  refine jb_cut (fun s' => ∃ w : Nat, 1 ≤ w ∧ w ≤ 6 ∧ s' = ⟨[.d (.scr ns), .d (.int (w : Nat)), .u, .u, .u], []⟩) (js_if (jt_cmp C (je_bin (je_call C F_law_mix (by decide) (jd_cons (je_var 0) (jd_cons je_int jd_nil)) ⟨ns, 1, rfl, rfl⟩) je_int (by walk_at "b")) je_int (by walk_at "c")) (fun hb => ?_) (fun hb => ?_)) ?_
  · exact jb_cons (js_set 1 C je_int (jb_nil ⟨6, by decide, by decide, rfl⟩))
  · exact jb_nil ⟨1 + mixN ns 0 % 5, by omega, by omega, rfl⟩
  rintro s' ⟨w, w1, w2, rfl⟩
  have hd6 : mixN ns 2 % 6 < 6 := Nat.mod_lt _ (by decide)
  refine jb_cons (js_set 2 C (je_as (je_bin (je_call C F_law_mix (by decide) (jd_cons (je_var 0) (jd_cons je_int jd_nil)) ⟨ns, 2, rfl, rfl⟩) je_int (by walk_at "b")) (show _ = D.int ((mixN ns 2 % 6 : Nat) : Int) from rfl)) ?_)
  revert hd6
  generalize mixN ns 2 % 6 = d
  intro hd6
  obtain ⟨p1, p2, p3⟩ := twoP_ok w (by omega) w1
  obtain ⟨dv, hp, hdv⟩ : ∃ dv : D, preTold [.int (w : Nat), .int (d : Nat)] (.ok dv) ∧ ((d < leastD w ∧ dv = .non) ∨ (leastD w ≤ d ∧ ∃ (n : Nt) (k : Nat), fewF w d = some (some k) ∧ n.good ∧ wrongN n "any" = none ∧ n.depth ≤ d ∧ n.steps.length = w - 1 + k ∧ dv = n.e)) := by
    by_cases h : leastD w ≤ d
    · obtain ⟨n, k, c1, c2, c3, c4, c5, c6⟩ := all_cases w1 w2 hd6 h
      exact ⟨n.e, ⟨w, d, rfl, .inr ⟨w, d, w1, w2, rfl, rfl, .inr ⟨h, n, c1, rfl⟩⟩⟩, .inr ⟨h, n, k, c2, c3, c4, c5, c6, rfl⟩⟩
    · exact ⟨.non, ⟨w, d, rfl, .inr ⟨w, d, w1, w2, rfl, rfl, .inl ⟨by omega, rfl⟩⟩⟩, .inl ⟨by omega, rfl⟩⟩
  refine jb_cons (js_set 3 C (je_call C F_law_told (by decide) (jd_cons (je_var 1) (jd_cons (je_var 2) jd_nil)) hp) ?_)
  refine jb_cons (js_set 4 C (je_call C Fleast_depth (by decide) (jd_cons (je_var 1) jd_nil) (.inl ⟨w, w1, by omega, rfl, rfl⟩)) ?_)
  have i1 : IxD (.lst [.int 1, .int 2, .int 4, .int 8]) (.int (leastD w : Nat)) (.int (twoP (leastD w) : Nat)) := by
    rw [← twoP_D p1]
    exact ix_disp p1
  refine jb_cons (js_if (jt_as (jt_w (jw_or (jt_as (jt_not (jt_val (je_call C F_law_whole (by decide) (jd_cons (je_var 4) jd_nil) ⟨_, rfl, rfl⟩))) (show _ = false from rfl)) (jw_or (jt_as (jt_cmp C (je_ix (je_f (jf_lst (jd_cons je_int (jd_cons je_int (jd_cons je_int (jd_cons je_int jd_nil)))))) (je_var 4) i1) (je_var 1) .lt) (show _ = false from decide_eq_false (by omega))) (jw_or1 (jt_as (jt_w (jw_andC (β2 := false) (jt_cmp C (je_var 4) je_int .gt) (fun hz => ?sml))) (show _ = false by rw [Bool.and_false])))))) (show _ = false from rfl)) (fun hq => Bool.noConfusion hq) (fun _ => ?_))
  case sml =>
    have hz := of_decide_eq_true hz
    have h0 : 0 < leastD w := by omega
    have p4 := p3 h0
    have i2 : IxD (.lst [.int 1, .int 2, .int 4, .int 8]) (.int ((leastD w - 1 : Nat) : Int)) (.int (twoP (leastD w - 1) : Nat)) := by
      rw [← twoP_D (l := leastD w - 1) (by omega)]
      exact ix_disp (ds := [D.int 1, .int 2, .int 4, .int 8]) (by show leastD w - 1 < 4; omega)
    exact jw_and1 (jt_as (jt_cmp C (je_ix (je_f (jf_lst (jd_cons je_int (jd_cons je_int (jd_cons je_int (jd_cons je_int jd_nil)))))) (je_as (je_bin (je_var 4) je_int .subI) (show _ = D.int ((leastD w - 1 : Nat) : Int) by congr 1; omega)) i2) (je_var 1) .ge) (show _ = false from decide_eq_false (by omega)))
  refine jb_nil ?_
  have st : ∀ z : Str, PyData.strOk z = true → Sh 0 (.str z) := fun z h => h
  have kk : PyData.strOk ("kind" : Str) = true := by decide +kernel
  rcases hdv with ⟨hlt, rfl⟩ | ⟨hge, n, k, hfew, hg, hr, hdep, hst, rfl⟩
  · refine jb_cons (js_if (jt_as (jt_cmp C (je_var 2) (je_var 4) .lt) (show _ = true from decide_eq_true (by omega))) (fun _ => ?_) (fun hq => Bool.noConfusion hq))
    have sh3 : Sh 1 (.lst [.str "kind", .str "kind", .str "kind"]) := show ∀ x ∈ _, Sh 0 x from sh_cons (st _ kk) (sh_cons (st _ kk) (sh_cons (st _ kk) sh_nil))
    refine jb_cons (js_ret (d := .bl true) (je_and (je_cmp C (je_var 3) je_non .isN) (fun _ => je_one (je_as (je_cmp C (je_f (jf_lst (jd_cons (je_call C F_law_told (by decide) (jd_cons je_int (jd_cons je_int jd_nil)) ⟨0, 3, rfl, .inl ⟨.inl (by decide), rfl⟩⟩) (jd_cons (je_call C F_law_told (by decide) (jd_cons je_int (jd_cons je_int jd_nil)) ⟨7, 3, rfl, .inl ⟨.inl (by decide), rfl⟩⟩) (jd_cons (je_call C F_law_told (by decide) (jd_cons (je_var 1) (jd_cons (je_neg je_int) jd_nil)) ⟨w, -1, rfl, .inl ⟨.inr (by decide), rfl⟩⟩) jd_nil))))) (je_as (je_f (jf_rep (n := 3) (je_f (jf_lst (jd_cons je_str jd_nil))) je_int (by decide) (by rw [sizeLine_eq]; decide))) (show _ = D.lst [.str "kind", .str "kind", .str "kind"] from rfl)) (.eq 1 (by decide) sh3 sh3)) (congrArg D.bl (eqv_self sh3)))) (fun z => Bool.noConfusion z)) rfl)
  · refine jb_cons (js_if (jt_as (jt_cmp C (je_var 2) (je_var 4) .lt) (show _ = false from decide_eq_false (by omega))) (fun hq => Bool.noConfusion hq) (fun _ => ?_))
    refine jb_nil ?_
    have g2 := hg.w2
    refine jb_cons (js_if (jt_as (jt_w (jw_or (jt_as (jt_not (jt_val (je_isTup (β := true) T.isinstance (je_var 3) (pe_bltn (v := .ty "tuple") rfl T.tuple (by decide +kernel) rfl) (.ty _) (kit_ty (by decide +kernel))))) (show _ = false from rfl)) (jw_or (jt_as (jt_cmp C (je_call C Fjudged (by decide) (jd_cons (je_var 3) (jd_cons je_str jd_nil)) (preJudged_ok hg (by decide))) (je_tup (jd_cons je_str jd_nil)) (.ne 2 (by decide) (sh_judg g2 _) (sh_right 1))) (show _ = false by rw [judg_right, hr]; rfl)) (jw_or1 (jt_as (jt_cmp C (je_call C Fdepth (by decide) (jd_cons (je_var 3) jd_nil) (.inl ⟨n, hg, rfl, rfl⟩)) (je_var 2) .gt) (show _ = false from decide_eq_false (by omega))))))) (show _ = false from rfl)) (fun hq => Bool.noConfusion hq) (fun _ => ?_))
    refine jb_nil ?_
    refine jb_cons (js_if (jt_as (jt_cmp C (je_len T.len (je_ix (je_var 3) je_int (.tup rfl)) .lst) (je_bin (je_bin (je_var 1) je_int .subI) (je_call (d := .int (k : Nat)) C F_law_fewest (by decide) (jd_cons (je_var 1) (jd_cons (je_var 2) jd_nil)) ⟨w, d, some k, w1, w2, hfew, rfl, rfl⟩) .addI) .neI) (show _ = false by
      have e : ((n.steps.map eP).length : Int) = (w : Int) - 1 + (k : Int) := by rw [List.length_map]; omega
      rw [decide_eq_true e]; rfl)) (fun hq => Bool.noConfusion hq) (fun _ => ?_))
    refine jb_nil ?_
    have e33 : leastD 33 = 6 := by decide +kernel
    have sh3 : Sh 1 (.lst [.str "kind", .str "kind", .int 6]) := show ∀ x ∈ _, Sh 0 x from sh_cons (st _ kk) (sh_cons (st _ kk) (sh_cons (sh_int _ _) sh_nil))
    refine jb_cons (js_ret (d := .bl true) (je_as (je_cmp C (je_f (jf_lst (jd_cons (je_call C F_law_depth_told (by decide) (jd_cons je_int jd_nil) (.inr ⟨0, by decide, rfl, rfl⟩)) (jd_cons (je_call C F_law_depth_told (by decide) (jd_cons je_int jd_nil) (.inr ⟨65, by decide, rfl, rfl⟩)) (jd_cons (je_as (je_call C F_law_depth_told (by decide) (jd_cons je_int jd_nil) (.inl ⟨33, by decide, by decide, rfl, rfl⟩)) (show _ = D.int 6 by rw [e33]; rfl)) jd_nil))))) (je_f (jf_lst (jd_cons je_str (jd_cons je_str (jd_cons je_int jd_nil))))) (.eq 1 (by decide) sh3 sh3)) (congrArg D.bl (eqv_self sh3))) rfl)
end
end Wk

namespace Wk
open PySem PySem.Spec PyProof.Rows L2 DL
/-! ### what the top has written -/
def dD (x : Str) (st : Stmt) : He.FnD := ⟨(x, none), x, x, defArgs st, defBody st, defScope st⟩
def dM (x m q : Str) (st : Stmt) : He.FnD := ⟨(x, some m), m, q, defArgs st, defBody st, defScope st⟩
/-- a tuple of texts -/
def strsOf : List Value → Option (List Str)
  | [] => some []
  | .str z _ :: r => (strsOf r).map (z :: ·)
  | _ :: _ => none
theorem strsOf_vals : ∀ {us : List Value} {zs : List Str}, strsOf us = some zs → Vals (zs.map V.str) us
  | [], zs, h => by
    have h : some [] = some zs := h
    cases h
    exact .nil
  | .str z t :: r, zs, h => by
    have h : (strsOf r).map (z :: ·) = some zs := h
    cases e : strsOf r with
    | none => rw [e] at h; cases h
    | some ys =>
      rw [e] at h
      have h : z :: ys = zs := Option.some.inj h
      subst h
      exact .cons ⟨t, rfl⟩ (strsOf_vals e)
  | .none :: _, _, h => nomatch h
  | .bool _ :: _, _, h => nomatch h
  | .int _ _ :: _, _, h => nomatch h
  | .ref _ :: _, _, h => nomatch h
  | .type _ :: _, _, h => nomatch h
  | .builtin _ :: _, _, h => nomatch h
/-- more words: what isinstance asks of an error of the class x; kit tests -/
inductive F2 where
  | err (x : Str)
  | kit (x y : Str) (b : Bool)
  | kitT (x : Str) (y : String) (b : Bool)
  | strT (x : Str) (zs : List Str)
def F2.ok (K : PySem.W.Frag) : F2 → Bool
  | .err x => He.eqO (PySem.W.findIn K (.ref (He.ga K x)) "__getattribute__") (some (some (.builtin "BaseException.__getattribute__"))) && (He.eqO (PySem.W.findIn K (.ref (He.ga K x)) "__getattr__") (some none) && (decide (PySem.W.subIn K (.ref (He.ga K x)) (.type "BaseException") = some true) && (PySem.W.hasDictIn K (He.ga K x) && (He.eqO (PySem.W.findIn K (.ref (He.ga K x)) "__class__") (some (some (.builtin "object.__class__"))) && (He.eqO (PySem.W.specialIn K (.builtin "object.__class__") "__get__") (some (some (.builtin "getset_descriptor.__get__"))) && (decide (PySem.W.takesIn K (.builtin "object.__class__") = some true) && decide (PySem.W.mroIn K (He.ga K x) (.type "object") = some true)))))))
  | .kit x y b => decide (PySem.W.kitOne K (.ref (He.ga K x)) (.ref (He.ga K y)) = some b)
  | .kitT x y b => decide (PySem.W.kitOne K (.ref (He.ga K x)) (.type y) = some b)
  | .strT x zs => (match K.lookup (He.ga K x) with
    | some ⟨.type "tuple", _, .seq its _, _⟩ => decide (strsOf its.toList = some zs) && decide (its.size ≤ 100)
    | _ => false)
def Says2 (l : List F2) (K : PySem.W.Frag) : Prop := (l.all fun f => f.ok K) = true
theorem Says2.fact {l : List F2} {K : PySem.W.Frag} (c : Says2 l K) (i : Nat) {f : F2} (h : l[i]? = some f := by rfl) : f.ok K = true := List.all_eq_true.mp c f (List.mem_of_getElem? h)
section
variable {K : PySem.W.Frag} {h : Heap} {mg : Str → Option Value} {P : Program} {w : World} {base : Heap}
theorem err_ok {x : Str} (c : (F2.err x).ok K = true) : ExcC K (He.ga K x) := by
  obtain ⟨c1, c⟩ := He.ba c
  obtain ⟨c2, c⟩ := He.ba c
  obtain ⟨c3, c⟩ := He.ba c
  obtain ⟨c4, c⟩ := He.ba c
  obtain ⟨c5, c⟩ := He.ba c
  obtain ⟨c6, c⟩ := He.ba c
  obtain ⟨c7, c8⟩ := He.ba c
  exact ⟨He.eqO_ok c1, He.eqO_ok c2, of_decide_eq_true c3, c4, He.eqO_ok c5, He.eqO_ok c6, of_decide_eq_true c7, of_decide_eq_true c8⟩
theorem kit_ok {x y : Str} {b : Bool} (c : (F2.kit x y b).ok K = true) : PySem.W.kitOne K (.ref (He.ga K x)) (.ref (He.ga K y)) = some b := of_decide_eq_true c
theorem kitT_ok {x : Str} {y : String} {b : Bool} (c : (F2.kitT x y b).ok K = true) : PySem.W.kitOne K (.ref (He.ga K x)) (.type y) = some b := of_decide_eq_true c
theorem strT_ok {x : Str} {zs : List Str} (c : (F2.strT x zs).ok K = true) : SqT K (fun _ => none) (He.ga K x) (zs.map V.str) := by
  have c2 : (match K.lookup (He.ga K x) with
    | some ⟨.type "tuple", _, .seq its _, _⟩ => decide (strsOf its.toList = some zs) && decide (its.size ≤ 100)
    | _ => false) = true := c
  split at c2
  · rename_i its n sl e
    obtain ⟨c3, c4⟩ := He.ba c2
    exact .inr ⟨_, _, _, e, rfl, rfl, Nat.le_trans (of_decide_eq_true c4) (by rw [sizeLine_eq]; decide), strsOf_vals (of_decide_eq_true c3)⟩
  · cases c2
theorem fun_at {fa : List He.Fa} {fn : List He.FnD} (c : He.SaysE fa fn K) (i : Nat) {x : Str} {st : Stmt} (hi : fn[i]? = some (dD x st)) (k : PySem.W.keepIn K (.ref (He.ga K x)) = true) :
    ∃ kV doc pm an cdv ct, Fun K x x st (He.ga K x) (PySem.W.fnOf x x (defArgs st) (defBody st) (defScope st) .none kV doc pm an cdv ct) := by
  obtain ⟨oc, od, osl, kV, doc, pm, an, cdv, ct, l, cc⟩ := c.def_ i hi
  exact ⟨kV, doc, pm, an, cdv, ct, fun_mk (st := st) l cc k⟩
theorem fun_atM {fa : List He.Fa} {fn : List He.FnD} (c : He.SaysE fa fn K) (i : Nat) {x m q : Str} {st : Stmt} (hi : fn[i]? = some (dM x m q st)) (k : PySem.W.keepIn K (.ref (He.ma K (He.ga K x) m)) = true) :
    ∃ kV doc pm an cdv ct, Fun K m q st (He.ma K (He.ga K x) m) (PySem.W.fnOf m q (defArgs st) (defBody st) (defScope st) .none kV doc pm an cdv ct) := by
  obtain ⟨oc, od, osl, kV, doc, pm, an, cdv, ct, l, cc⟩ := c.def_ i hi
  exact ⟨kV, doc, pm, an, cdv, ct, fun_mk (st := st) l cc k⟩
theorem exc_of (X : K.In h) (G : h.Ns mainGlobals mg) {x : Str} (g : (He.Fa.glo x).ok K = true) (c : (He.Fa.exc x).ok K = true) : ExcOf K mg x (He.ga K x) := by
  obtain ⟨c1, c2, c3, c4⟩ := He.exc_ok c
  exact ⟨c1, He.glo_ok X G g, c2, c3, c4⟩
theorem spD_law {pre : List D → Res → Prop} {H : Hp} {a : Addr} {ns : List Int} (hp : pre [.scr ns] (.ok (.bl true))) (hS : SqL K H a (ns.map V.int)) : spD K pre [.ref a] H (fun v _ => v = .bl true) fun _ _ _ => False :=
  ⟨H, [.scr ns], .ok (.bl true), fun _ _ z => z, .cons (.scr hS) .nil, hp, fun v B' H' _ _ r => by cases r; rfl⟩
theorem cx_no {P : Program} {w : World} {H : Hp} {s : Shared} {e : Value} {s' : Shared} (h : L2.CX P w [] H s (fun _ _ _ => False) e s') : False := by
  obtain ⟨a, B, H', cls, d, _, _, _, _, _, _, _, z⟩ := h
  exact z
end
end Wk

namespace Wk
open PySem PySem.Spec PyProof.Rows L2 DL Sm
def faL : List He.Fa := [.free "len", .free "range", .free "list", .free "tuple", .free "max", .free "min", .free "all", .free "any",
  .free "int", .free "str", .free "bool", .free "isinstance", .free "sorted", .free "set", .free "reversed", .free "ValueError",
  .free "dict", .glo "look_net", .keep "look_net", .glo "depths", .keep "depths", .glo "depth", .keep "depth", .glo "counts",
  .keep "counts", .glo "spans_of", .keep "spans_of", .glo "wrong_out", .keep "wrong_out", .glo "breaking_row", .keep "breaking_row", .glo "judged",
  .keep "judged", .glo "least_depth", .keep "least_depth", .glo "_law_cell", .keep "_law_cell", .glo "_law_mix", .keep "_law_mix", .glo "_law_refusal",
  .keep "_law_refusal", .glo "_law_whole", .keep "_law_whole", .glo "with_parts", .keep "with_parts", .glo "net_of", .keep "net_of", .glo "least_net",
  .keep "least_net", .glo "_law_deep", .keep "_law_deep", .glo "_law_fewest", .keep "_law_fewest", .glo "_law_told", .keep "_law_told", .glo "_law_depth_told",
  .keep "_law_depth_told", .glo "law", .keep "law", .glo "SumError", .glo "BadNet", .glo "BadRow", .glo "BadKind", .glo "Wrong",
  .glo "BadText", .glo "KINDS", .int "MOST_WIDE_nets" 64, .int "MOST_STEPS" 500, .int "MOST_WIDE_least" 6, .exc "BadNet", .exc "BadKind", .exm "BadKind" "SumError" true,
  .glo "Search", .cls "Search", .mkr "Search", .noat "Search" "most", .noat "Search" "best", .meth "Search" "__init__", .meth "Search" "go"]
def fnL : List He.FnD := [dD "look_net" sLook, dD "depths" sDepths, dD "depth" sDepth, dD "counts" sCounts, dD "spans_of" sSpans, dD "wrong_out" sWrong, dD "breaking_row" sBrk, dD "judged" sJudged, dD "least_depth" sLeastD, dD "_law_cell" sCell, dD "_law_mix" sMix, dD "_law_refusal" sRefusal, dD "_law_whole" sWhole, dD "with_parts" sParts, dD "net_of" sNetOf, dD "least_net" sLeast, dD "_law_deep" sDeep, dD "_law_fewest" sFewest, dD "_law_told" sTold, dD "_law_depth_told" sDtold, dD "law" sLaw, dM "Search" "__init__" "Search.__init__" sSinit, dM "Search" "go" "Search.go" sGo]
def f2L : List F2 := [.err "BadKind", .kitT "BadKind" "ValueError" true, .kit "BadKind" "BadKind" true, .kit "BadKind" "BadNet" false, .kit "BadKind" "BadRow" false, .kit "BadKind" "BadText" false, .kit "BadKind" "Wrong" false,
  .strT "KINDS" ["any", "commuting", "greatest"]]
theorem all_mk {K : PySem.W.Frag} {h : Heap} {mg : Str → Option Value} {P : Program} {w : World} {fa : Addr} (X : K.In h) (G : h.Ns mainGlobals mg) (hfa : mg "law" = some (.ref fa)) (c : He.SaysE faL fnL K) (c2 : Says2 f2L K) :
    ∃ fd : FuncData, (∀ (s : Shared) (u : Value), BindsTo s fd ⟨[u], []⟩ [("_law_script", u)]) ∧ ∀ base : Heap, K.In base → base.Ns mainGlobals mg → FnOk P w K mg base (L2.CX P w) 25 fa fd ["_law_script"] (spD K preLaw) := by
  have T : Bt mg := ⟨He.free_ok X G (c.fact 0), He.free_ok X G (c.fact 1), He.free_ok X G (c.fact 2), He.free_ok X G (c.fact 3), He.free_ok X G (c.fact 4), He.free_ok X G (c.fact 5), He.free_ok X G (c.fact 6), He.free_ok X G (c.fact 7), He.free_ok X G (c.fact 8), He.free_ok X G (c.fact 9), He.free_ok X G (c.fact 10), He.free_ok X G (c.fact 11), He.free_ok X G (c.fact 12), He.free_ok X G (c.fact 13), He.free_ok X G (c.fact 14), He.free_ok X G (c.fact 15), He.free_ok X G (c.fact 16)⟩
  have g_look_net : mg "look_net" = some (.ref (He.ga K "look_net")) := He.glo_ok X G (c.fact 17)
  have g_depths : mg "depths" = some (.ref (He.ga K "depths")) := He.glo_ok X G (c.fact 19)
  have g_depth : mg "depth" = some (.ref (He.ga K "depth")) := He.glo_ok X G (c.fact 21)
  have g_counts : mg "counts" = some (.ref (He.ga K "counts")) := He.glo_ok X G (c.fact 23)
  have g_spans_of : mg "spans_of" = some (.ref (He.ga K "spans_of")) := He.glo_ok X G (c.fact 25)
  have g_wrong_out : mg "wrong_out" = some (.ref (He.ga K "wrong_out")) := He.glo_ok X G (c.fact 27)
  have g_breaking_row : mg "breaking_row" = some (.ref (He.ga K "breaking_row")) := He.glo_ok X G (c.fact 29)
  have g_judged : mg "judged" = some (.ref (He.ga K "judged")) := He.glo_ok X G (c.fact 31)
  have g_least_depth : mg "least_depth" = some (.ref (He.ga K "least_depth")) := He.glo_ok X G (c.fact 33)
  have g__law_cell : mg "_law_cell" = some (.ref (He.ga K "_law_cell")) := He.glo_ok X G (c.fact 35)
  have g__law_mix : mg "_law_mix" = some (.ref (He.ga K "_law_mix")) := He.glo_ok X G (c.fact 37)
  have g__law_refusal : mg "_law_refusal" = some (.ref (He.ga K "_law_refusal")) := He.glo_ok X G (c.fact 39)
  have g__law_whole : mg "_law_whole" = some (.ref (He.ga K "_law_whole")) := He.glo_ok X G (c.fact 41)
  have g_with_parts : mg "with_parts" = some (.ref (He.ga K "with_parts")) := He.glo_ok X G (c.fact 43)
  have g_net_of : mg "net_of" = some (.ref (He.ga K "net_of")) := He.glo_ok X G (c.fact 45)
  have g_least_net : mg "least_net" = some (.ref (He.ga K "least_net")) := He.glo_ok X G (c.fact 47)
  have g__law_deep : mg "_law_deep" = some (.ref (He.ga K "_law_deep")) := He.glo_ok X G (c.fact 49)
  have g__law_fewest : mg "_law_fewest" = some (.ref (He.ga K "_law_fewest")) := He.glo_ok X G (c.fact 51)
  have g__law_told : mg "_law_told" = some (.ref (He.ga K "_law_told")) := He.glo_ok X G (c.fact 53)
  have g__law_depth_told : mg "_law_depth_told" = some (.ref (He.ga K "_law_depth_told")) := He.glo_ok X G (c.fact 55)
  have g_law : mg "law" = some (.ref (He.ga K "law")) := He.glo_ok X G (c.fact 57)
  have g_SumError : mg "SumError" = some (.ref (He.ga K "SumError")) := He.glo_ok X G (c.fact 59)
  have g_BadNet : mg "BadNet" = some (.ref (He.ga K "BadNet")) := He.glo_ok X G (c.fact 60)
  have g_BadRow : mg "BadRow" = some (.ref (He.ga K "BadRow")) := He.glo_ok X G (c.fact 61)
  have g_BadKind : mg "BadKind" = some (.ref (He.ga K "BadKind")) := He.glo_ok X G (c.fact 62)
  have g_Wrong : mg "Wrong" = some (.ref (He.ga K "Wrong")) := He.glo_ok X G (c.fact 63)
  have g_BadText : mg "BadText" = some (.ref (He.ga K "BadText")) := He.glo_ok X G (c.fact 64)
  have g_KINDS : mg "KINDS" = some (.ref (He.ga K "KINDS")) := He.glo_ok X G (c.fact 65)
  obtain ⟨t_MOST_WIDE_nets, m_MOST_WIDE_nets⟩ := He.int_ok X G (c.fact 66) (x := "MOST_WIDE_nets") (i := 64)
  obtain ⟨t_MOST_STEPS, m_MOST_STEPS⟩ := He.int_ok X G (c.fact 67) (x := "MOST_STEPS") (i := 500)
  obtain ⟨t_MOST_WIDE_least, m_MOST_WIDE_least⟩ := He.int_ok X G (c.fact 68) (x := "MOST_WIDE_least") (i := 6)
  have x_BadNet : ExcOf K mg "BadNet" (He.ga K "BadNet") := exc_of X G (c.fact 60) (c.fact 69)
  have x_BadKind : ExcOf K mg "BadKind" (He.ga K "BadKind") := exc_of X G (c.fact 62) (c.fact 70)
  have h_BadKind_SumError := He.exm_ok (c.fact 71) (x := "BadKind") (y := "SumError") (b := true)
  have R_BadKind : RefF K mg (He.ga K "BadKind") 0 := ⟨by decide, err_ok (c2.fact 0), ⟨_, _, _, _, _, ⟨g_BadKind, g_BadNet, g_BadRow, g_BadText, g_Wrong⟩, kit_ok (c2.fact 2), kit_ok (c2.fact 3), kit_ok (c2.fact 4), kit_ok (c2.fact 5), kit_ok (c2.fact 6)⟩, kitT_ok (c2.fact 1)⟩
  have s_KINDS := strT_ok (c2.fact 7) (x := "KINDS") (zs := ["any", "commuting", "greatest"])
  have g_Search : mg "Search" = some (.ref (He.ga K "Search")) := He.glo_ok X G (c.fact 72)
  have cl_Search := He.cls_ok (c.fact 73) (x := "Search")
  have mk_Search := He.mkr_ok (c.fact 74) (x := "Search")
  have na_Search_most := He.noat_ok (c.fact 75) (x := "Search") (f := "most")
  have na_Search_best := He.noat_ok (c.fact 76) (x := "Search") (f := "best")
  have me_Search___init__ := He.meth_ok (c.fact 77) (x := "Search") (m := "__init__")
  obtain ⟨_, _, _, _, _, _, F_Search___init__⟩ := fun_atM c 21 (x := "Search") (m := "__init__") (q := "Search.__init__") (st := sSinit) rfl me_Search___init__.kp
  have b_Search___init__ := F_Search___init__.binds (ps := ["self", "most"]) fun _ _ _ _ _ _ us hl => match us, hl with | [_, _], _ => rfl
  have me_Search_go := He.meth_ok (c.fact 78) (x := "Search") (m := "go")
  obtain ⟨_, _, _, _, _, _, F_Search_go⟩ := fun_atM c 22 (x := "Search") (m := "go") (q := "Search.go") (st := sGo) rfl me_Search_go.kp
  have b_Search_go := F_Search_go.binds (ps := ["self", "wanted", "cuts"]) fun _ _ _ _ _ _ us hl => match us, hl with | [_, _, _], _ => rfl
  obtain ⟨_, _, _, _, _, _, F_look_net⟩ := fun_at c 0 (x := "look_net") (st := sLook) rfl (He.keep_ok (c.fact 18))
  have b_look_net := F_look_net.binds (ps := ["net"]) fun _ _ _ _ _ _ us hl => match us, hl with | [_], _ => rfl
  obtain ⟨_, _, _, _, _, _, F_depths⟩ := fun_at c 1 (x := "depths") (st := sDepths) rfl (He.keep_ok (c.fact 20))
  have b_depths := F_depths.binds (ps := ["net"]) fun _ _ _ _ _ _ us hl => match us, hl with | [_], _ => rfl
  obtain ⟨_, _, _, _, _, _, F_depth⟩ := fun_at c 2 (x := "depth") (st := sDepth) rfl (He.keep_ok (c.fact 22))
  have b_depth := F_depth.binds (ps := ["net"]) fun _ _ _ _ _ _ us hl => match us, hl with | [_], _ => rfl
  obtain ⟨_, _, _, _, _, _, F_counts⟩ := fun_at c 3 (x := "counts") (st := sCounts) rfl (He.keep_ok (c.fact 24))
  have b_counts := F_counts.binds (ps := ["net"]) fun _ _ _ _ _ _ us hl => match us, hl with | [_], _ => rfl
  obtain ⟨_, _, _, _, _, _, F_spans_of⟩ := fun_at c 4 (x := "spans_of") (st := sSpans) rfl (He.keep_ok (c.fact 26))
  have b_spans_of := F_spans_of.binds (ps := ["net"]) fun _ _ _ _ _ _ us hl => match us, hl with | [_], _ => rfl
  obtain ⟨_, _, _, _, _, _, F_wrong_out⟩ := fun_at c 5 (x := "wrong_out") (st := sWrong) rfl (He.keep_ok (c.fact 28))
  have b_wrong_out := F_wrong_out.binds (ps := ["net", "kind"]) fun _ _ _ _ _ _ us hl => match us, hl with | [_, _], _ => rfl
  obtain ⟨_, _, _, _, _, _, F_breaking_row⟩ := fun_at c 6 (x := "breaking_row") (st := sBrk) rfl (He.keep_ok (c.fact 30))
  have b_breaking_row := F_breaking_row.binds (ps := ["net", "kind", "out"]) fun _ _ _ _ _ _ us hl => match us, hl with | [_, _, _], _ => rfl
  obtain ⟨_, _, _, _, _, _, F_judged⟩ := fun_at c 7 (x := "judged") (st := sJudged) rfl (He.keep_ok (c.fact 32))
  have b_judged := F_judged.binds (ps := ["net", "kind"]) fun _ _ _ _ _ _ us hl => match us, hl with | [_, _], _ => rfl
  obtain ⟨_, _, _, _, _, _, F_least_depth⟩ := fun_at c 8 (x := "least_depth") (st := sLeastD) rfl (He.keep_ok (c.fact 34))
  have b_least_depth := F_least_depth.binds (ps := ["wide"]) fun _ _ _ _ _ _ us hl => match us, hl with | [_], _ => rfl
  obtain ⟨_, _, _, _, _, _, F__law_cell⟩ := fun_at c 9 (x := "_law_cell") (st := sCell) rfl (He.keep_ok (c.fact 36))
  have b__law_cell := F__law_cell.binds (ps := ["_law_script", "_law_k"]) fun _ _ _ _ _ _ us hl => match us, hl with | [_, _], _ => rfl
  obtain ⟨_, _, _, _, _, _, F__law_mix⟩ := fun_at c 10 (x := "_law_mix") (st := sMix) rfl (He.keep_ok (c.fact 38))
  have b__law_mix := F__law_mix.binds (ps := ["_law_script", "_law_k"]) fun _ _ _ _ _ _ us hl => match us, hl with | [_, _], _ => rfl
  obtain ⟨_, _, _, _, _, _, F__law_refusal⟩ := fun_at c 11 (x := "_law_refusal") (st := sRefusal) rfl (He.keep_ok (c.fact 40))
  have b__law_refusal := F__law_refusal.binds (ps := ["_law_kept"]) fun _ _ _ _ _ _ us hl => match us, hl with | [_], _ => rfl
  obtain ⟨_, _, _, _, _, _, F__law_whole⟩ := fun_at c 12 (x := "_law_whole") (st := sWhole) rfl (He.keep_ok (c.fact 42))
  have b__law_whole := F__law_whole.binds (ps := ["_law_found"]) fun _ _ _ _ _ _ us hl => match us, hl with | [_], _ => rfl
  obtain ⟨_, _, _, _, _, _, F_with_parts⟩ := fun_at c 13 (x := "with_parts") (st := sParts) rfl (He.keep_ok (c.fact 44))
  have b_with_parts := F_with_parts.binds (ps := ["wanted", "parts", "deep"]) fun _ _ _ _ _ _ us hl => match us, hl with | [_, _, _], _ => rfl
  obtain ⟨_, _, _, _, _, _, F_net_of⟩ := fun_at c 14 (x := "net_of") (st := sNetOf) rfl (He.keep_ok (c.fact 46))
  have b_net_of := F_net_of.binds (ps := ["wide", "cuts"]) fun _ _ _ _ _ _ us hl => match us, hl with | [_, _], _ => rfl
  obtain ⟨_, _, _, _, _, _, F_least_net⟩ := fun_at c 15 (x := "least_net") (st := sLeast) rfl (He.keep_ok (c.fact 48))
  have b_least_net := F_least_net.binds (ps := ["wide", "deep"]) fun _ _ _ _ _ _ us hl => match us, hl with | [_, _], _ => rfl
  obtain ⟨_, _, _, _, _, _, F__law_deep⟩ := fun_at c 16 (x := "_law_deep") (st := sDeep) rfl (He.keep_ok (c.fact 50))
  have b__law_deep := F__law_deep.binds (ps := ["_law_first", "_law_last", "_law_some", "_law_found"]) fun _ _ _ _ _ _ us hl => match us, hl with | [_, _, _, _], _ => rfl
  obtain ⟨_, _, _, _, _, _, F__law_fewest⟩ := fun_at c 17 (x := "_law_fewest") (st := sFewest) rfl (He.keep_ok (c.fact 52))
  have b__law_fewest := F__law_fewest.binds (ps := ["_law_wide", "_law_deep_here"]) fun _ _ _ _ _ _ us hl => match us, hl with | [_, _], _ => rfl
  obtain ⟨_, _, _, _, _, _, F__law_told⟩ := fun_at c 18 (x := "_law_told") (st := sTold) rfl (He.keep_ok (c.fact 54))
  have b__law_told := F__law_told.binds (ps := ["_law_wide", "_law_deep_here"]) fun _ _ _ _ _ _ us hl => match us, hl with | [_, _], _ => rfl
  obtain ⟨_, _, _, _, _, _, F__law_depth_told⟩ := fun_at c 19 (x := "_law_depth_told") (st := sDtold) rfl (He.keep_ok (c.fact 56))
  have b__law_depth_told := F__law_depth_told.binds (ps := ["_law_wide"]) fun _ _ _ _ _ _ us hl => match us, hl with | [_], _ => rfl
  obtain ⟨kV, doc, pm, an, cdv, ct, F_law⟩ := fun_at c 20 (x := "law") (st := sLaw) rfl (He.keep_ok (c.fact 58))
  have b_law := F_law.binds (ps := ["_law_script"]) fun _ _ _ _ _ _ us hl => match us, hl with | [_], _ => rfl
  have e := hfa.symm.trans g_law
  cases e
  have key : ∀ base : Heap, FnOk P w K mg base (L2.CX P w) 25 (He.ga K "law") (PySem.W.fnOf "law" "law" (defArgs sLaw) (defBody sLaw) (defScope sLaw) .none kV doc pm an cdv ct) ["_law_script"] (spD K preLaw) := fun base => by
    have L1 := fn_look3 (Pg := P) (w := w) (base := base) F_look_net b_look_net g_look_net T x_BadNet m_MOST_WIDE_nets m_MOST_STEPS
    have Ld := fn_depths (Pg := P) (w := w) (base := base) F_depths b_depths g_depths T L1
    have Le := fn_depth (Pg := P) (w := w) (base := base) F_depth b_depth g_depth T Ld
    have L2 := fn_counts (Pg := P) (w := w) (base := base) F_counts b_counts g_counts T L1
    have L3 := fn_spans (Pg := P) (w := w) (base := base) F_spans_of b_spans_of g_spans_of T
    have L4 := fn_wrong (Pg := P) (w := w) (base := base) F_wrong_out b_wrong_out g_wrong_out T L2 L3
    have L5 := fn_brk (Pg := P) (w := w) (base := base) F_breaking_row b_breaking_row g_breaking_row T L2
    have L6 := fn_judged (Pg := P) (w := w) (base := base) F_judged b_judged g_judged T x_BadKind ⟨⟨_, g_KINDS, s_KINDS⟩⟩ L1 L4 L5
    have N6 := fn_leastD (Pg := P) (w := w) (base := base) F_least_depth b_least_depth g_least_depth T x_BadKind
    have L7 := fn_cell (Pg := P) (w := w) (base := base) F__law_cell b__law_cell g__law_cell T
    have L8 := fn_mix (Pg := P) (w := w) (base := base) F__law_mix b__law_mix g__law_mix T L7
    have L9 := fn_refusal (Pg := P) (w := w) (base := base) F__law_refusal b__law_refusal g__law_refusal T
    have Lw := fn_whole (Pg := P) (w := w) (base := base) F__law_whole b__law_whole g__law_whole T
    have hS := (⟨cl_Search, na_Search_most, na_Search_best⟩ : SrcF K (He.ga K "Search"))
    have S1 := fn_sinit (mg := mg) (Pg := P) (w := w) (base := base) F_Search___init__ hS
    have W1 := fn_parts (Pg := P) (w := w) (base := base) F_with_parts b_with_parts g_with_parts T N6
    have S2 := mt_go (Pg := P) (w := w) (base := base) F_Search_go b_Search_go me_Search_go T hS W1
    have MS := (⟨⟨_, _, _, mk_Search, S1, b_Search___init__⟩, g_Search⟩ : MkS P w K mg base "Search" (He.ga K "Search") "most" "best" 1)
    have W2 := fn_netof (Pg := P) (w := w) (base := base) F_net_of b_net_of g_net_of T
    have W3 := fn_least (Pg := P) (w := w) (base := base) F_least_net b_least_net g_least_net T x_BadKind m_MOST_WIDE_least hS MS (S2 16) N6 W2
    have D1 := fn_deep (Pg := P) (w := w) (base := base) F__law_deep b__law_deep g__law_deep T
    have D2 := fn_fewest (Pg := P) (w := w) (base := base) F__law_fewest b__law_fewest g__law_fewest T D1
    have T1 := fn_told (Pg := P) (w := w) (base := base) F__law_told b__law_told g__law_told R_BadKind g_SumError h_BadKind_SumError W3 L9
    have T2 := fn_dtold (Pg := P) (w := w) (base := base) F__law_depth_told b__law_depth_told g__law_depth_told R_BadKind g_SumError h_BadKind_SumError N6 L9
    exact fn_law (Pg := P) (w := w) (base := base) F_law b_law g_law T L8 T1 T2 D2 Lw L6 Le N6
  exact ⟨_, fun s u => .of_eq rfl, fun base _ _ => key base⟩
end Wk
open PySem PySem.W PyProof.Rows
set_option maxHeartbeats 0 in
theorem PySem.Challenge.cw_sumspan_k30_whole_least_holds : PySem.Challenge.rw_sumspan_k30_whole_least.Holds := by
  w_on; o_law; k_head; (case hw => w_witness2)
  k_fill
  refine L2.walk_of (l := PySem.Challenge.rw_sumspan_k30_whole_least) (n := 63) (k := 25) (x := "_law_script") (CX := fun w => L2.CX PySem.Challenge.pw_sumspan_k30_whole_least w) (sp := fun w => DL.spD _ Wk.preLaw) rfl (by decide) rfl ⟨rfl, by decide, by decide⟩ (fun w h Y => PySem.W.kIn_of Y) ?F (fun w H a ns _ _ hS => Wk.spD_law ⟨ns, rfl, rfl⟩ hS) (fun _ _ _ _ _ z => Wk.cx_no z)
  case F =>
    intro w mg fa h KX G hmg
    exact Wk.all_mk KX G hmg (by show He.obsE _ _ _ = He.valE _; kernel_rfl) (by show List.all _ _ = true; kernel_rfl)


